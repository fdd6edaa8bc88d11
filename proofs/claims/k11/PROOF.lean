import PyProof.Rows.All
import Wide.All
import OpenK.AllK
import Wide.FinOn
import PyProof.EqAt
import PyProof.EqKinds
import PyProof.TupleCall
import HandS.ForSpec
import HandS.ForMost
import HandS.Wide
import HandS.WideBits
import HandS.Gcd
import HandS.FStr
import HandS.RaiseMore
import HandS.Lambda
import HandS.MakeKw
import HandS.Property
import HandS.IsInst
import KE.KOpsOwn
import OpenK.KMeth
import HandS.SlotsOwn
import HandS.OwnEq
import PyProof.InstNe
import HandS.List
import PyProof.ReprRoads
import KE.KCallOwn
import HandS.Style
import HandS.Zip
import HandS.Iter
import HandS.Exc
import HandS.Comp
import HandS.Defaults
import HandS.ClsMeth
import HandS.TupLe
import HandS.Words
import HandS.Ends
import PySem.Challenge.RW_surerwalks_k11_whole_numbers_reckoned
set_option Elab.async false
set_option linter.all false
set_option maxRecDepth 100000
set_option maxHeartbeats 4000000
namespace Sh
open PySem PySem.Spec PyProof.Rows L2
/-- values as trees -/
inductive PV where
  | non | bl (b : Bool) | int (i : Int) | str (x : Str)
  | tup (xs : List PV) | lst (xs : List PV) | fz (xs : List PV)
  | ins (c : Nat) (xs : List PV)
  | any
/-- a value, or a list that may still change -/
inductive SV where
  | pv (p : PV) | cell (k : Nat)
/-- what may still change: a list, an instance that is being made -/
inductive CC where
  | l (xs : List SV)
  | o (c : Nat) (ps : List PV)
abbrev Cs := List (Option CC)
structure StE where
  sl : List (Option SV)
  cs : Cs
inductive Out (α : Type) where
  | ok (a : α) (e : StE)
  | exc (c : Nat) (fs : List PV) (e : StE)
  | bad
abbrev DE := StE → Out SV
inductive Fl where
  | nx | bk | ct | rt (v : SV)
abbrev DS := StE → Out Fl
/-- a class: where it stands, its fields in sequence -/
structure CI where
  C : Addr
  fs : List Str
abbrev CT := Nat → Option CI
structure Pr where
  K : PySem.W.Frag
  T : CT
mutual
def Rep (P : Pr) (F : Hp) : PV → V → Prop
  | .non, v => v = .non
  | .bl b, v => v = .bl b
  | .int i, v => v = .int i
  | .str x, v => v = .str x
  | .tup ps, v => ∃ a vs, v = .ref a ∧ SqT P.K F a vs ∧ Reps P F ps vs
  | .lst ps, v => ∃ a vs, v = .ref a ∧ F a = some (.lst vs) ∧ Reps P F ps vs
  | .fz ps, v => ∃ a vs, v = .ref a ∧ SqL P.K F a vs ∧ Reps P F ps vs
  | .ins c ps, v => ∃ a ci dx vs, v = .ref a ∧ P.T c = some ci ∧ F a = some (.ins ci.C dx (ci.fs.zip vs)) ∧ ci.fs.length = vs.length ∧ Reps P F ps vs
  | .any, _ => True
def Reps (P : Pr) (F : Hp) : List PV → List V → Prop
  | [], vs => vs = []
  | p :: ps, vs => ∃ v r, vs = v :: r ∧ Rep P F p v ∧ Reps P F ps r
end
/-- one knows more -/
def Le (F F' : Hp) : Prop := ∀ a o, F a = some o → F' a = some o
theorem Le.refl (F : Hp) : Le F F := fun _ _ h => h
theorem Le.trans {F F1 F2 : Hp} (a : Le F F1) (b : Le F1 F2) : Le F F2 := fun x o h => b x o (a x o h)
theorem SqL.le {K : PySem.W.Frag} {F F' : Hp} {a : Addr} {xs : List V} (e : Le F F') (h : SqL K F a xs) : SqL K F' a xs := by
  rcases h with (h | ⟨o, h⟩) | h
  · exact .inl (.inl (e _ _ h))
  · exact .inl (.inr ⟨o, e _ _ h⟩)
  · exact .inr h
theorem SqT.le {K : PySem.W.Frag} {F F' : Hp} {a : Addr} {xs : List V} (e : Le F F') (h : SqT K F a xs) : SqT K F' a xs := by
  rcases h with (h | ⟨o, h⟩) | h
  · exact .inl (.inl (e _ _ h))
  · exact .inl (.inr ⟨o, e _ _ h⟩)
  · exact .inr h
mutual
theorem Rep.le {P : Pr} {F F' : Hp} (e : Le F F') : ∀ {p : PV} {v : V}, Rep P F p v → Rep P F' p v
  | .non, _, h => h
  | .bl _, _, h => h
  | .int _, _, h => h
  | .str _, _, h => h
  | .tup ps, _, h => by
    obtain ⟨a, vs, h1, h2, h3⟩ := h
    exact ⟨a, vs, h1, SqT.le e h2, Reps.le e h3⟩
  | .lst ps, _, h => by
    obtain ⟨a, vs, h1, h2, h3⟩ := h
    exact ⟨a, vs, h1, e _ _ h2, Reps.le e h3⟩
  | .fz ps, _, h => by
    obtain ⟨a, vs, h1, h2, h3⟩ := h
    exact ⟨a, vs, h1, SqL.le e h2, Reps.le e h3⟩
  | .ins c ps, _, h => by
    obtain ⟨a, ci, dx, vs, h1, h2, h3, h4, h5⟩ := h
    exact ⟨a, ci, dx, vs, h1, h2, e _ _ h3, h4, Reps.le e h5⟩
  | .any, _, h => h
theorem Reps.le {P : Pr} {F F' : Hp} (e : Le F F') : ∀ {ps : List PV} {vs : List V}, Reps P F ps vs → Reps P F' ps vs
  | [], _, h => h
  | p :: ps, _, h => by
    obtain ⟨v, r, h1, h2, h3⟩ := h
    exact ⟨v, r, h1, Rep.le e h2, Reps.le e h3⟩
end
theorem Reps.length {P : Pr} {F : Hp} : ∀ {ps : List PV} {vs : List V}, Reps P F ps vs → ps.length = vs.length
  | [], _, h => by cases h; rfl
  | p :: ps, _, h => by
    obtain ⟨v, r, h1, h2, h3⟩ := h
    subst h1
    simp [Reps.length h3]
theorem Reps.get {P : Pr} {F : Hp} : ∀ {ps : List PV} {vs : List V} {i : Nat} {p : PV}, Reps P F ps vs → ps[i]? = some p → ∃ v, vs[i]? = some v ∧ Rep P F p v
  | [], _, i, p, h, e => by simp at e
  | q :: ps, _, i, p, h, e => by
    obtain ⟨v, r, h1, h2, h3⟩ := h
    subst h1
    cases i with
    | zero => simp at e; subst e; exact ⟨v, rfl, h2⟩
    | succ i => exact Reps.get (i := i) h3 (by simpa using e)
theorem Reps.append {P : Pr} {F : Hp} : ∀ {ps qs : List PV} {vs ws : List V}, Reps P F ps vs → Reps P F qs ws → Reps P F (ps ++ qs) (vs ++ ws)
  | [], _, _, _, h, h' => by cases h; exact h'
  | p :: ps, _, _, _, h, h' => by
    obtain ⟨v, r, h1, h2, h3⟩ := h
    subst h1
    exact ⟨v, r ++ _, rfl, h2, Reps.append h3 h'⟩
theorem Reps.take {P : Pr} {F : Hp} : ∀ {ps : List PV} {vs : List V} (n : Nat), Reps P F ps vs → Reps P F (ps.take n) (vs.take n)
  | _, _, 0, _ => by simp [Reps]
  | [], _, n + 1, h => by cases h; simp [Reps]
  | p :: ps, _, n + 1, h => by
    obtain ⟨v, r, h1, h2, h3⟩ := h
    subst h1
    exact ⟨v, r.take n, rfl, h2, Reps.take n h3⟩
theorem Reps.drop {P : Pr} {F : Hp} : ∀ {ps : List PV} {vs : List V} (n : Nat), Reps P F ps vs → Reps P F (ps.drop n) (vs.drop n)
  | _, _, 0, h => h
  | [], _, n + 1, h => by cases h; simp [Reps]
  | p :: ps, _, n + 1, h => by
    obtain ⟨v, r, h1, h2, h3⟩ := h
    subst h1
    exact Reps.drop n h3
/-- a value that may be a list that changes; cad: where these stand -/
def RepS (P : Pr) (F : Hp) (cad : List Addr) : SV → V → Prop
  | .pv p, v => Rep P F p v
  | .cell k, v => ∃ a, cad[k]? = some a ∧ v = .ref a
inductive RepSs (P : Pr) (F : Hp) (cad : List Addr) : List SV → List V → Prop
  | nil : RepSs P F cad [] []
  | cons {x : SV} {v : V} {xs : List SV} {vs : List V} (h : RepS P F cad x v) (t : RepSs P F cad xs vs) : RepSs P F cad (x :: xs) (v :: vs)
theorem RepS.le {P : Pr} {F F' : Hp} {cad cad' : List Addr} (e : Le F F') (p : cad <+: cad') : ∀ {x : SV} {v : V}, RepS P F cad x v → RepS P F' cad' x v
  | .pv p, _, h => Rep.le e h
  | .cell k, _, h => by
    obtain ⟨a, h1, h2⟩ := h
    obtain ⟨t, rfl⟩ := p
    refine ⟨a, ?_, h2⟩
    rw [List.getElem?_append_left]
    · exact h1
    · exact (List.getElem?_eq_some_iff.mp h1).1
theorem RepSs.le {P : Pr} {F F' : Hp} {cad cad' : List Addr} (e : Le F F') (p : cad <+: cad') {xs : List SV} {vs : List V} (h : RepSs P F cad xs vs) : RepSs P F' cad' xs vs := by
  induction h with
  | nil => exact .nil
  | cons h t ih => exact .cons (h.le e p) ih
theorem RepSs.length {P : Pr} {F : Hp} {cad : List Addr} {xs : List SV} {vs : List V} (h : RepSs P F cad xs vs) : xs.length = vs.length := by
  induction h with
  | nil => rfl
  | cons h t ih => simp [ih]
theorem RepSs.get {P : Pr} {F : Hp} {cad : List Addr} {xs : List SV} {vs : List V} (h : RepSs P F cad xs vs) : ∀ {i : Nat} {x : SV}, xs[i]? = some x → ∃ v, vs[i]? = some v ∧ RepS P F cad x v := by
  induction h with
  | nil => intro i x e; simp at e
  | cons h t ih =>
    intro i x e
    cases i with
    | zero => simp at e; subst e; exact ⟨_, rfl, h⟩
    | succ i => exact ih (i := i) (by simpa using e)
theorem RepSs.set {P : Pr} {F : Hp} {cad : List Addr} {xs : List SV} {vs : List V} {x : SV} {v : V} (h : RepSs P F cad xs vs) (r : RepS P F cad x v) : ∀ i : Nat, RepSs P F cad (xs.set i x) (vs.set i v) := by
  induction h with
  | nil => intro i; exact .nil
  | cons h t ih =>
    intro i
    cases i with
    | zero => exact .cons r t
    | succ i => exact .cons h (ih i)
theorem RepSs.append {P : Pr} {F : Hp} {cad : List Addr} {xs ys : List SV} {vs ws : List V} (h : RepSs P F cad xs vs) (h' : RepSs P F cad ys ws) : RepSs P F cad (xs ++ ys) (vs ++ ws) := by
  induction h with
  | nil => exact h'
  | cons h t ih => exact .cons h ih
/-- only plain values -/
def pvs : List SV → Option (List PV)
  | [] => some []
  | .pv p :: r => (pvs r).map (p :: ·)
  | .cell _ :: _ => none
theorem pvs_reps {P : Pr} {F : Hp} {cad : List Addr} {xs : List SV} {vs : List V} (h : RepSs P F cad xs vs) : ∀ {ps : List PV}, pvs xs = some ps → Reps P F ps vs := by
  induction h with
  | nil => intro ps e; cases e; rfl
  | @cons x v xs vs h t ih =>
    intro ps e
    cases x with
    | cell k => cases e
    | pv p =>
      unfold pvs at e
      cases q : pvs xs with
      | none => rw [q] at e; cases e
      | some r =>
        rw [q] at e
        cases e
        exact ⟨v, vs, rfl, h, ih q⟩
theorem pvs_map : ∀ ps : List PV, pvs (ps.map .pv) = some ps
  | [] => rfl
  | p :: ps => by simp [pvs, pvs_map ps]
theorem reps_pvs {P : Pr} {F : Hp} {cad : List Addr} : ∀ {ps : List PV} {vs : List V}, Reps P F ps vs → RepSs P F cad (ps.map .pv) vs
  | [], _, h => by cases h; exact .nil
  | p :: ps, _, h => by
    obtain ⟨v, r, h1, h2, h3⟩ := h
    subst h1
    exact .cons h2 (reps_pvs h3)
/-- how such a thing stands -/
def CellAt (P : Pr) (F : Hp) (cad : List Addr) (H : Hp) (a : Addr) : CC → Prop
  | .l xs => ∃ vs, H a = some (.lst vs) ∧ RepSs P F cad xs vs
  | .o c ps => ∃ ci dx vs, P.T c = some ci ∧ H a = some (.ins ci.C dx ((ci.fs.take ps.length).zip vs)) ∧ ps.length = vs.length ∧ ps.length ≤ ci.fs.length ∧ Reps P F ps vs
theorem CellAt.there {P : Pr} {F : Hp} {cad : List Addr} {H : Hp} {a : Addr} : ∀ {cc : CC}, CellAt P F cad H a cc → ∃ o, H a = some o
  | .l xs, ⟨_, h, _⟩ => ⟨_, h⟩
  | .o c ps, ⟨_, _, _, _, h, _⟩ => ⟨_, h⟩
theorem CellAt.le {P : Pr} {F F' : Hp} {cad cad' : List Addr} {H H' : Hp} {a : Addr} (l : Le F F') (p : cad <+: cad') (e : ∀ o, H a = some o → H' a = some o) : ∀ {cc : CC}, CellAt P F cad H a cc → CellAt P F' cad' H' a cc
  | .l xs, ⟨vs, h, r⟩ => ⟨vs, e _ h, r.le l p⟩
  | .o c ps, ⟨ci, dx, vs, h1, h2, h3, h4, h5⟩ => ⟨ci, dx, vs, h1, e _ h2, h3, h4, Reps.le l h5⟩
/-- the things that change -/
structure RelC (P : Pr) (F : Hp) (cad : List Addr) (cs : Cs) (H : Hp) : Prop where
  sub : Le F H
  nd : cad.Nodup
  len : cs.length = cad.length
  at_ : ∀ a ∈ cad, H a ≠ none
  cell : ∀ (k : Nat) (cc : CC), cs[k]? = some (some cc) → ∃ a, cad[k]? = some a ∧ F a = none ∧ CellAt P F cad H a cc
structure Rel (P : Pr) (F : Hp) (cad : List Addr) (e : StE) (σ : L2.St) (H : Hp) : Prop where
  c : RelC P F cad e.cs H
  sl : e.sl.length = σ.length
  slot : ∀ (i : Nat) (x : SV), e.sl[i]? = some (some x) → ∃ v, σ[i]? = some (some v) ∧ RepS P F cad x v
/-- what comes behind -/
structure Ext (F : Hp) (cad : List Addr) (H : Hp) (F' : Hp) (cad' : List Addr) (H' : Hp) : Prop where
  le : Le F F'
  pre : cad <+: cad'
  new : ∀ a ∈ cad', a ∉ cad → H a = none
  keep : ∀ a o, H a = some o → a ∉ cad → H' a = some o
  fz : ∀ a o, F' a = some o → F a = some o ∨ H a = none ∨ a ∈ cad
theorem Ext.refl (F : Hp) (cad : List Addr) (H : Hp) : Ext F cad H F cad H := ⟨Le.refl F, List.prefix_refl _, fun a h n => absurd h n, fun _ _ h _ => h, fun _ _ h => .inl h⟩
theorem Ext.trans {F F1 F2 H H1 H2 : Hp} {cad cad1 cad2 : List Addr} (a : Ext F cad H F1 cad1 H1) (b : Ext F1 cad1 H1 F2 cad2 H2) : Ext F cad H F2 cad2 H2 where
  le := a.le.trans b.le
  pre := a.pre.trans b.pre
  new := fun x hx hn => by
    by_cases h1 : x ∈ cad1
    · exact a.new x h1 hn
    · have e := b.new x hx h1
      cases q : H x with
      | none => rfl
      | some o =>
        rw [a.keep x o q hn] at e
        cases e
  keep := fun x o h hn => by
    have h1 := a.keep x o h hn
    by_cases hx : x ∈ cad1
    · have := a.new x hx hn
      rw [h] at this; cases this
    · exact b.keep x o h1 hx
  fz := fun x o h => by
    by_cases hc : x ∈ cad
    · exact .inr (.inr hc)
    · rcases b.fz x o h with q | q | q
      · exact a.fz x o q
      · refine .inr (.inl ?_)
        cases z : H x with
        | none => rfl
        | some u =>
          rw [a.keep x u z hc] at q
          cases q
      · exact .inr (.inl (a.new x q hc))
section
variable {P : Pr} {F F' H H' : Hp} {cad cad' : List Addr} {e : StE} {σ : L2.St}
theorem le_upd {cs : Cs} (r : RelC P F cad cs H) {p : Addr} {o : HO} (hp : H p = none) : Le F (upd F p o) := fun b u hb => by
  rw [upd_ne (fun z => by subst z; have := r.sub _ _ hb; rw [hp] at this; cases this)]
  exact hb
theorem keep_upd {p : Addr} {o : HO} (hp : H p = none) : Le H (L2.upd H p o) := fun b u hb => by
  rw [upd_ne (ne_of_none hb hp)]
  exact hb
/-- something new was laid, that only grows -/
theorem RelC.lay {cs : Cs} (r : RelC P F cad cs H) {p : Addr} {o : HO} (hp : H p = none) : RelC P F cad cs (L2.upd H p o) where
  sub := r.sub.trans (keep_upd hp)
  nd := r.nd
  len := r.len
  at_ := fun a ha => by
    rw [upd_ne (fun z => by subst z; exact r.at_ _ ha hp)]
    exact r.at_ a ha
  cell := fun k cc h => by
    obtain ⟨a, h1, h2, h3⟩ := r.cell k cc h
    exact ⟨a, h1, h2, h3.le (Le.refl F) (List.prefix_refl _) fun o q => keep_upd hp _ _ q⟩
/-- a new object, frozen at once -/
theorem RelC.alloc {cs : Cs} (r : RelC P F cad cs H) {p : Addr} {o : HO} (hp : H p = none) : RelC P (L2.upd F p o) cad cs (L2.upd H p o) where
  sub := fun a u h => by
    by_cases z : a = p
    · subst z; rw [upd_same] at h ⊢; exact h
    · rw [upd_ne z] at h ⊢; exact r.sub a u h
  nd := r.nd
  len := r.len
  at_ := fun a ha => by
    rw [upd_ne (fun z => by subst z; exact r.at_ _ ha hp)]
    exact r.at_ a ha
  cell := fun k cc h => by
    obtain ⟨a, h1, h2, h3⟩ := r.cell k cc h
    obtain ⟨u, hu⟩ := h3.there
    exact ⟨a, h1, by rw [upd_ne (ne_of_none hu hp)]; exact h2, h3.le (le_upd r hp) (List.prefix_refl _) fun o q => keep_upd hp _ _ q⟩
theorem Ext.alloc {cs : Cs} (r : RelC P F cad cs H) {p : Addr} {o : HO} (hp : H p = none) : Ext F cad H (upd F p o) cad (upd H p o) :=
  ⟨le_upd r hp, List.prefix_refl _, fun a h n => absurd h n, fun a u h _ => by rw [upd_ne (ne_of_none h hp)]; exact h, fun a u h => by
    by_cases z : a = p
    · subst z; exact .inr (.inl hp)
    · rw [upd_ne z] at h; exact .inl h⟩
theorem Rel.alloc (r : Rel P F cad e σ H) {p : Addr} {o : HO} (hp : H p = none) : Rel P (upd F p o) cad e σ (upd H p o) :=
  ⟨r.c.alloc hp, r.sl, fun i x h => by
    obtain ⟨v, h1, h2⟩ := r.slot i x h
    exact ⟨v, h1, h2.le (le_upd r.c hp) (List.prefix_refl _)⟩⟩
end
/-! ### what is read -/
abbrev RG (α β : Type) := Hp → List Addr → α → β → Prop
abbrev rB : RG Bool Bool := fun _ _ a b => a = b
section
variable {α β γ δ : Type}
def Post (P : Pr) (R : RG α β) (F : Hp) (cad : List Addr) (σ : L2.St) (H : Hp) (e' : StE) (x : α) (v : β) (H' : Hp) : Prop :=
  ∃ F' cad', Ext F cad H F' cad' H' ∧ Rel P F' cad' e' σ H' ∧ R F' cad' x v
/-- an exception: its class, its fields -/
def RepX (P : Pr) (F : Hp) (c : Nat) (fs : List PV) (cls : Value) (dx : Option Addr) : Prop :=
  ∃ ci, P.T c = some ci ∧ cls = .ref ci.C ∧ ((ci.fs = [] ∧ fs = [] ∧ dx = none) ∨ ∃ d vs, dx = some d ∧ F d = some (.xd (ci.fs.zip vs)) ∧ ci.fs.length = vs.length ∧ Reps P F fs vs)
def PostX (P : Pr) (F : Hp) (cad : List Addr) (σ : L2.St) (H : Hp) (e' : StE) (c : Nat) (fs : List PV) (cls : Value) (dx : Option Addr) (H' : Hp) : Prop :=
  ∃ F' cad', Ext F cad H F' cad' H' ∧ Rel P F' cad' e' σ H' ∧ RepX P F' c fs cls dx
/-- what an outcome asks -/
def Sat (P : Pr) (R : RG α β) (W : WX) (F : Hp) (cad : List Addr) (σ : L2.St) (H : Hp) (Q : β → Hp → Prop) : Out α → Prop
  | .ok x e' => ∀ v H', Post P R F cad σ H e' x v H' → Q v H'
  | .exc c fs e' => ∀ cls dx H', PostX P F cad σ H e' c fs cls dx H' → W cls dx σ H'
  | .bad => False
/-- d, located -/
def At (P : Pr) (R : RG α β) (W : WX) (d : StE → Out α) (F : Hp) (cad : List Addr) (e : StE) (σ : L2.St) (H : Hp) (Q : β → Hp → Prop) : Prop := Sat P R W F cad σ H Q (d e)
def Rd (P : Pr) (R : RG α β) (W : WX) (d : StE → Out α) : L2.St → Hp → (β → Hp → Prop) → Prop := fun σ H Q => ∃ F cad e, Rel P F cad e σ H ∧ At P R W d F cad e σ H Q
def bindE (a : StE → Out α) (k : α → StE → Out γ) : StE → Out γ := fun e => match a e with
  | .ok x e' => k x e'
  | .exc c fs e' => .exc c fs e'
  | .bad => .bad
def retE (x : α) : StE → Out α := fun e => .ok x e
def badE : StE → Out α := fun _ => .bad
variable {P : Pr} {R : RG α β} {R2 : RG γ δ} {W : WX} {F F1 H H1 : Hp} {cad cad1 : List Addr} {σ : L2.St} {e e' : StE}
theorem Post.ext {x : α} {v : β} {H' : Hp} (a : Ext F cad H F1 cad1 H1) (p : Post P R F1 cad1 σ H1 e' x v H') : Post P R F cad σ H e' x v H' := by
  obtain ⟨F', cad', b, r, s⟩ := p
  exact ⟨F', cad', a.trans b, r, s⟩
theorem PostX.ext {c : Nat} {fs : List PV} {cls : Value} {dx : Option Addr} {H' : Hp} (a : Ext F cad H F1 cad1 H1) (p : PostX P F1 cad1 σ H1 e' c fs cls dx H') : PostX P F cad σ H e' c fs cls dx H' := by
  obtain ⟨F', cad', b, r, s⟩ := p
  exact ⟨F', cad', a.trans b, r, s⟩
theorem Sat.ext {Q : β → Hp → Prop} {o : Out α} (a : Ext F cad H F1 cad1 H1) (h : Sat P R W F cad σ H Q o) : Sat P R W F1 cad1 σ H1 Q o := by
  cases o with
  | ok x e' => exact fun v H' p => h v H' (p.ext a)
  | exc c fs e' => exact fun cls dx H' p => h cls dx H' (p.ext a)
  | bad => exact h
theorem Sat.mono {Q Q' : β → Hp → Prop} {o : Out α} (i : ∀ v H', Q v H' → Q' v H') (h : Sat P R W F cad σ H Q o) : Sat P R W F cad σ H Q' o := by
  cases o with
  | ok x e' => exact fun v H' p => i _ _ (h v H' p)
  | exc c fs e' => exact h
  | bad => exact h
theorem At.mono {d : StE → Out α} {Q Q' : β → Hp → Prop} (h : At P R W d F cad e σ H Q) (i : ∀ v H', Q v H' → Q' v H') : At P R W d F cad e σ H Q' := Sat.mono i h
theorem At.ext {d : StE → Out α} {Q : β → Hp → Prop} (a : Ext F cad H F1 cad1 H1) (h : At P R W d F cad e σ H Q) : At P R W d F1 cad1 e σ H1 Q := Sat.ext a h
/-- the state behind d, with what is still to be done -/
def Then (P : Pr) (R : RG α β) (R2 : RG γ δ) (W : WX) (k : α → StE → Out γ) (F : Hp) (cad : List Addr) (σ : L2.St) (H : Hp) (Q : δ → Hp → Prop) : β → Hp → Prop :=
  fun v H1 => ∃ F1 cad1 x e1, Ext F cad H F1 cad1 H1 ∧ Rel P F1 cad1 e1 σ H1 ∧ R F1 cad1 x v ∧ At P R2 W (k x) F1 cad1 e1 σ H1 Q
theorem At.bind {d : StE → Out α} {k : α → StE → Out γ} {Q : δ → Hp → Prop} (h : At P R2 W (bindE d k) F cad e σ H Q) : At P R W d F cad e σ H (Then P R R2 W k F cad σ H Q) := by
  unfold At at h ⊢
  unfold bindE at h
  cases q : d e with
  | ok x e' =>
    rw [q] at h
    intro v H' p
    obtain ⟨F', cad', b, r, s⟩ := p
    exact ⟨F', cad', x, e', b, r, s, Sat.ext b h⟩
  | exc c fs e' =>
    rw [q] at h
    exact h
  | bad =>
    rw [q] at h
    exact h
theorem At.rd {d : StE → Out α} {Q : β → Hp → Prop} (r : Rel P F cad e σ H) (h : At P R W d F cad e σ H Q) : Rd P R W d σ H Q := ⟨F, cad, e, r, h⟩
/-- a value at hand -/
theorem At.ret {x : α} {Q : β → Hp → Prop} (r : Rel P F cad e σ H) (h : At P R W (retE x) F cad e σ H Q) {v : β} (rv : R F cad x v) : Q v H :=
  h v H ⟨F, cad, Ext.refl _ _ _, r, rv⟩
/-- .. of a new object at p -/
theorem At.retNew {x : α} {Q : β → Hp → Prop} (r : Rel P F cad e σ H) (h : At P R W (retE x) F cad e σ H Q) {p : Addr} {o : HO} {v : β} (hp : H p = none) (rv : R (upd F p o) cad x v) : Q v (upd H p o) :=
  h v (upd H p o) ⟨upd F p o, cad, Ext.alloc r.c hp, r.alloc hp, rv⟩
theorem At.not_bad {Q : β → Hp → Prop} (h : At P R W badE F cad e σ H Q) : False := h
end
/-- an expression means d; a test; arguments -/
def Sn (X : Cx) (P : Pr) (W : WX) (x : Expr) (d : DE) : Prop := PE X x (Rd P (RepS P) W d)
def SnT (X : Cx) (P : Pr) (W : WX) (x : Expr) (d : StE → Out Bool) : Prop := PT X x (Rd P rB W d)
def SnA (X : Cx) (P : Pr) (W : WX) (x : List Expr) (d : StE → Out (List SV)) : Prop := PA X x (Rd P (RepSs P) W d)
theorem PE.imp {X : Cx} {x : Expr} {t t' : TE} (h : PE X x t) (i : ∀ σ H Q, t' σ H Q → t σ H Q) : PE X x t' := ⟨fun pins s σ H Q I q => h.run pins s σ H Q I (i σ H Q q)⟩
theorem PT.imp {X : Cx} {x : Expr} {t t' : TT} (h : PT X x t) (i : ∀ σ H Q, t' σ H Q → t σ H Q) : PT X x t' := ⟨fun pins s σ H Q I q => h.run pins s σ H Q I (i σ H Q q)⟩
theorem PA.imp {X : Cx} {x : List Expr} {t t' : TA} (h : PA X x t) (i : ∀ σ H Q, t' σ H Q → t σ H Q) : PA X x t' := ⟨fun ps pins s σ H Q I q => h.run ps pins s σ H Q I (i σ H Q q)⟩
theorem PS.imp {X : Cx} {x : Stmt} {t t' : TS} (h : PS X x t) (i : ∀ D σ H, t' D σ H → t D σ H) : PS X x t' := ⟨fun pins s σ H D I q => h.run pins s σ H D I (i D σ H q)⟩
theorem PSs.imp {X : Cx} {x : List Stmt} {t t' : TS} (h : PSs X x t) (i : ∀ D σ H, t' D σ H → t D σ H) : PSs X x t' := ⟨fun pins s σ H D I q => h.run pins s σ H D I (i D σ H q)⟩
/-- two values in a row -/
theorem two {α β : Type} {P : Pr} {R : RG α β} {W : WX} {F H : Hp} {cad : List Addr} {σ : L2.St} {e : StE} {da db : DE} {k : SV → SV → StE → Out α} {Q : β → Hp → Prop} (h : At P R W (bindE da fun x => bindE db (k x)) F cad e σ H Q) :
    At P (RepS P) W da F cad e σ H (fun v H1 => Rd P (RepS P) W db σ H1 (fun u H2 => ∃ F2 cad2 e2 x y, Rel P F2 cad2 e2 σ H2 ∧ RepS P F2 cad2 x v ∧ RepS P F2 cad2 y u ∧ At P R W (k x y) F2 cad2 e2 σ H2 Q)) := by
  refine (At.bind (R := RepS P) h).mono fun v H1 ⟨F1, cad1, x, e1, b, r, s, a⟩ => At.rd r ((At.bind (R := RepS P) a).mono fun u H2 ⟨F2, cad2, y, e2, b2, r2, s2, a2⟩ => ?_)
  exact ⟨F2, cad2, e2, x, y, r2, s.le b2.le b2.pre, s2, a2⟩
end Sh
namespace Sh
open PySem PySem.Spec PyProof.Rows L2
/-! # Expressions -/
section
variable {X : Cx} {P : Pr} {W : WX}
/-! ### names, constants -/
def dVar (i : Nat) : DE := fun e => match e.sl[i]? with
  | some (some x) => .ok x e
  | _ => .bad
theorem sn_var {i : Nat} {x : Str} {pos : Pos} (hN : X.N[i]? = some x := by rfl) (hv : Vis X.env.scope x := by first | exact Or.inl rfl | exact Or.inr (Or.inl rfl) | exact Or.inr (Or.inr rfl)) (hd : (x == ("__debug__" : Str)) = false := by decide)
    (hcd : (x == ("__classdict__" : Str)) = false := by decide) : Sn X P W (.Name x pos) (dVar i) := by
  refine PE.imp (pe_var (pos := pos) hN hv hd hcd) fun σ H Q h => ?_
  obtain ⟨F, cad, e, r, a⟩ := h
  unfold At dVar at a
  cases q : e.sl[i]? with
  | none => rw [q] at a; exact a.elim
  | some o =>
    cases o with
    | none => rw [q] at a; exact a.elim
    | some x =>
      rw [q] at a
      obtain ⟨v, h1, h2⟩ := r.slot i x q
      exact ⟨v, h1, a v H ⟨F, cad, Ext.refl _ _ _, r, h2⟩⟩
def dC (p : PV) : DE := retE (.pv p)
theorem Rd.ret {α β : Type} {R : RG α β} {x : α} {σ : L2.St} {H : Hp} {Q : β → Hp → Prop} (h : Rd P R W (retE x) σ H Q) {v : β} (rv : ∀ F cad, R F cad x v) : Q v H := by
  obtain ⟨F, cad, e, r, a⟩ := h
  exact At.ret r a (rv F cad)
theorem sn_int {i j pos} : Sn X P W (.Constant (.int i) j pos) (dC (.int i)) := PE.imp pe_int fun σ H Q h => Rd.ret h fun _ _ => rfl
theorem sn_bl {b j pos} : Sn X P W (.Constant (.bool b) j pos) (dC (.bl b)) := PE.imp pe_bl fun σ H Q h => Rd.ret h fun _ _ => rfl
theorem sn_non {j pos} : Sn X P W (.Constant .none j pos) (dC .non) := PE.imp pe_non fun σ H Q h => Rd.ret h fun _ _ => rfl
theorem sn_str {x j pos} : Sn X P W (.Constant (.str x) j pos) (dC (.str x)) := PE.imp pe_str fun σ H Q h => Rd.ret h fun _ _ => rfl
/-! ### two operands -/
def OpSn (X : Cx) (P : Pr) (W : WX) (f : Value → Value → Sem Value) (o : SV → SV → DE) : Prop :=
  ∀ (pins : List (Addr × Obj)) (s : Shared) (σ : L2.St) (H : Hp) (x y : V) (v u : Value) (Q : VK), Inv X pins σ H s → RelV x v → RelV y u →
    (∃ F cad e sx sy, Rel P F cad e σ H ∧ RepS P F cad sx x ∧ RepS P F cad sy y ∧ At P (RepS P) W (o sx sy) F cad e σ H Q) →
    wpAny (model X.prog X.w) X.A (f v u) (EP X pins σ Q) X.xe s
theorem OpSn.of {f : Value → Value → Sem Value} {r : R2} {o : SV → SV → DE} (h : OpR X f r)
    (i : ∀ F cad e σ H sx sy x y Q, Rel P F cad e σ H → RepS P F cad sx x → RepS P F cad sy y → At P (RepS P) W (o sx sy) F cad e σ H Q → r x y H Q) : OpSn X P W f o := by
  intro pins s σ H x y v u Q I rx ry hh
  obtain ⟨F, cad, e, sx, sy, r, s1, s2, a⟩ := hh
  exact h pins s σ H x y v u Q I rx ry (i F cad e σ H sx sy x y Q r s1 s2 a)
def dBin (o : SV → SV → DE) (da db : DE) : DE := bindE da fun x => bindE db fun y => o x y
theorem sn_bin {op : Operator} {a b : Expr} {da db : DE} {o : SV → SV → DE} {pos : Pos} (ho : OpSn X P W (binaryOp op) o) (ha : Sn X P W a da) (hb : Sn X P W b db) : Sn X P W (.BinOp a op b pos) (dBin o da db) := by
  refine ⟨fun pins s σ H Q I h => ?_⟩
  obtain ⟨F, cad, e, r, h⟩ := h
  refine wpAny_BinOp (L2.bin ha hb I (At.rd r (two h)) fun v u s2 x y H2 I2 rx ry q => ?_)
  obtain ⟨F2, cad2, e2, sx, sy, r2, h1, h2, h3⟩ := q
  exact ho pins s2 σ H2 x y v u Q I2 rx ry ⟨F2, cad2, e2, sx, sy, r2, h1, h2, h3⟩
theorem sn_cmp {op : CmpOp} {a b : Expr} {da db : DE} {o : SV → SV → DE} {pos : Pos} (ho : OpSn X P W (compareOp op) o) (ha : Sn X P W a da) (hb : Sn X P W b db) (hm : behindInMarks op b = false := by first | rfl | exact nomark _) : Sn X P W (.Compare a [op] [b] pos) (dBin o da db) := by
  refine ⟨fun pins s σ H Q I h => ?_⟩
  obtain ⟨F, cad, e, r, h⟩ := h
  refine wpAny_Compare1 (L2.bin ha hb I (At.rd r (two h)) fun v u s2 x y H2 I2 rx ry q => ?_) hm
  obtain ⟨F2, cad2, e2, sx, sy, r2, h1, h2, h3⟩ := q
  exact ho pins s2 σ H2 x y v u Q I2 rx ry ⟨F2, cad2, e2, sx, sy, r2, h1, h2, h3⟩
/-- a value that is a truth value, as a test -/
def tB (d : DE) : StE → Out Bool := bindE d fun x => match x with
  | .pv (.bl b) => retE b
  | _ => badE
theorem Rd.bl {d : DE} {σ : L2.St} {H : Hp} {Q : Bool → Hp → Prop} (h : Rd P rB W (tB d) σ H Q) : Rd P (RepS P) W d σ H fun x H1 => ∃ c, x = .bl c ∧ Q c H1 := by
  obtain ⟨F, cad, e, r, h⟩ := h
  refine At.rd r ((At.bind (R := RepS P) h).mono fun v H1 ⟨F1, cad1, x, e1, b, r1, s1, a⟩ => ?_)
  cases x with
  | cell k => exact a.elim
  | pv p =>
    cases p <;> first | exact a.elim | skip
    rename_i c
    exact ⟨c, s1, At.ret r1 a rfl⟩
theorem snt_val {x : Expr} {d : DE} (h : Sn X P W x d) (he : ∀ whole, isTrue x X.env whole = (do let v ← whole; standAt x.pos; holding [v] (truthy v)) := by intro _; rfl) : SnT X P W x (tB d) :=
  PT.imp (pt_val h he) fun σ H Q h => Rd.bl h
theorem snt_cmp {op : CmpOp} {a b : Expr} {da db : DE} {o : SV → SV → DE} {pos : Pos} (ho : OpSn X P W (compareOp op) o) (ha : Sn X P W a da) (hb : Sn X P W b db) (hm : behindInMarks op b = false := by first | rfl | exact nomark _) : SnT X P W (.Compare a [op] [b] pos) (tB (dBin o da db)) := by
  refine ⟨fun pins s σ H Q I hw => ?_⟩
  obtain ⟨F, cad, e, r, h⟩ := Rd.bl hw
  refine wpAny_isTrue_Compare1 (L2.bin ha hb I (At.rd r (two h)) fun v u s2 x y H2 I2 rx ry q => ?_) hm
  obtain ⟨F2, cad2, e2, sx, sy, r2, h1, h2, h3⟩ := q
  refine thn (ho pins s2 σ H2 x y v u _ I2 rx ry ⟨F2, cad2, e2, sx, sy, r2, h1, h2, h3⟩) fun c s3 ⟨z, H3, I3, rz, k, ek, q⟩ => ?_
  subst ek
  cases rz
  exact wpAny_truthy_bool ⟨H3, I3, q⟩
/-! ### numbers -/
def bad2 : SV → SV → DE := fun _ _ => badE
theorem op_bad {f : Value → Value → Sem Value} : OpSn X P W f bad2 := by
  intro pins s σ H x y v u Q I rx ry hh
  obtain ⟨F, cad, e, sx, sy, r, s1, s2, a⟩ := hh
  exact a.elim
/-- on two ints -/
def o2I (g : Int → Int → DE) (rest : SV → SV → DE) : SV → SV → DE := fun x y => match x, y with
  | .pv (.int i), .pv (.int j) => g i j
  | x, y => rest x y
theorem op_2I {f : Value → Value → Sem Value} {g : Int → Int → DE} {rest : SV → SV → DE} (h : ∀ F cad e σ H (i j : Int) (Q : VK), Rel P F cad e σ H → At P (RepS P) W (g i j) F cad e σ H Q →
    ∀ (pins : List (Addr × Obj)) (s : Shared) (v u : Value), Inv X pins σ H s → RelV (.int i) v → RelV (.int j) u → wpAny (model X.prog X.w) X.A (f v u) (EP X pins σ Q) X.xe s) (hr : OpSn X P W f rest) : OpSn X P W f (o2I g rest) := by
  intro pins s σ H x y v u Q I rx ry hh
  obtain ⟨F, cad, e, sx, sy, r, s1, s2, a⟩ := hh
  unfold o2I at a
  split at a
  · cases s1; cases s2
    exact h F cad e σ H _ _ Q r a pins s v u I rx ry
  · exact hr pins s σ H x y v u Q I rx ry ⟨F, cad, e, sx, sy, r, s1, s2, a⟩
theorem op_2Ir {f : Value → Value → Sem Value} {r : R2} {g : Int → Int → DE} {rest : SV → SV → DE} (ho : OpR X f r) (h : ∀ F cad e σ H (i j : Int) (Q : VK), Rel P F cad e σ H → At P (RepS P) W (g i j) F cad e σ H Q → r (.int i) (.int j) H Q) (hr : OpSn X P W f rest) : OpSn X P W f (o2I g rest) :=
  op_2I (fun F cad e σ H i j Q r a pins s v u I rx ry => ho pins s σ H _ _ v u Q I rx ry (h F cad e σ H i j Q r a)) hr
def rI (i : Int) : DE := retE (.pv (.int i))
def rBl (b : Bool) : DE := retE (.pv (.bl b))
abbrev oSub (rest : SV → SV → DE) := o2I (fun i j => rI (i - j)) rest
abbrev oAddI (rest : SV → SV → DE) := o2I (fun i j => rI (i + j)) rest
abbrev oMulI (rest : SV → SV → DE) := o2I (fun i j => if i.natAbs.log2 + j.natAbs.log2 < 1000000 then rI (i * j) else badE) rest
/-- // by a divisor below 2 ^ 9000 in size, not 0 -/
abbrev oDiv (rest : SV → SV → DE) := o2I (fun i j => if j ≠ 0 ∧ j.natAbs.log2 < 9000 then rI (i.fdiv j) else badE) rest
abbrev oMod (rest : SV → SV → DE) := o2I (fun i j => if j ≠ 0 then rI (i.fmod j) else badE) rest
abbrev oPow (rest : SV → SV → DE) := o2I (fun i j => if 0 ≤ j ∧ j ≤ 1000000 ∧ i.natAbs < 18446744073709551616 then rI (i ^ j.toNat) else badE) rest
theorem op_subS {rest : SV → SV → DE} (hr : OpSn X P W (binaryOp .Sub) rest) : OpSn X P W (binaryOp .Sub) (oSub rest) := op_2Ir op_sub (fun F cad e σ H i j Q r a => ⟨i, j, rfl, rfl, At.ret r a rfl⟩) hr
theorem op_addI {rest : SV → SV → DE} (hr : OpSn X P W (binaryOp .Add) rest) : OpSn X P W (binaryOp .Add) (oAddI rest) := op_2Ir op_add (fun F cad e σ H i j Q r a => ⟨i, j, rfl, rfl, At.ret r a rfl⟩) hr
theorem op_mulI {rest : SV → SV → DE} (hr : OpSn X P W (binaryOp .Mult) rest) : OpSn X P W (binaryOp .Mult) (oMulI rest) := op_2Ir op_mulW (fun F cad e σ H i j Q r a => by
  split at a
  · rename_i h
    exact ⟨i, j, rfl, rfl, h, At.ret r a rfl⟩
  · exact a.elim) hr
theorem op_divS {rest : SV → SV → DE} (hr : OpSn X P W (binaryOp .FloorDiv) rest) : OpSn X P W (binaryOp .FloorDiv) (oDiv rest) := op_2I (fun F cad e σ H i j Q r a pins s v u I rx ry => by
  split at a
  · rename_i h
    obtain ⟨t, rfl⟩ := rx
    obtain ⟨t', rfl⟩ := ry
    exact floordiv_int h.1 ⟨.int _, H, I.tok _, ⟨_, rfl⟩, At.ret r a rfl⟩ (.inl (PyProof.noPylong_of_log2 h.2))
  · exact a.elim) hr
theorem op_modS {rest : SV → SV → DE} (hr : OpSn X P W (binaryOp .Mod) rest) : OpSn X P W (binaryOp .Mod) (oMod rest) := op_2Ir op_modN (fun F cad e σ H i j Q r a => by
  split at a
  · rename_i h
    exact ⟨i, j, rfl, rfl, h, At.ret r a rfl⟩
  · exact a.elim) hr
theorem op_powS {rest : SV → SV → DE} (hr : OpSn X P W (binaryOp .Pow) rest) : OpSn X P W (binaryOp .Pow) (oPow rest) := op_2Ir op_pow (fun F cad e σ H i j Q r a => by
  split at a
  · rename_i h
    exact ⟨i, j, rfl, rfl, ⟨h.1, h.2.1, by have := h.2.2; omega⟩, At.ret r a rfl⟩
  · exact a.elim) hr
abbrev oLt (rest : SV → SV → DE) := o2I (fun i j => rBl (decide (i < j))) rest
abbrev oLe (rest : SV → SV → DE) := o2I (fun i j => rBl (decide (i ≤ j))) rest
abbrev oGt (rest : SV → SV → DE) := o2I (fun i j => rBl (decide (j < i))) rest
abbrev oGe (rest : SV → SV → DE) := o2I (fun i j => rBl (decide (j ≤ i))) rest
theorem op_ltS {rest : SV → SV → DE} (hr : OpSn X P W (compareOp .Lt) rest) : OpSn X P W (compareOp .Lt) (oLt rest) := op_2Ir op_lt (fun F cad e σ H i j Q r a => ⟨i, j, rfl, rfl, At.ret r a rfl⟩) hr
theorem op_leS {rest : SV → SV → DE} (hr : OpSn X P W (compareOp .LtE) rest) : OpSn X P W (compareOp .LtE) (oLe rest) := op_2Ir op_le (fun F cad e σ H i j Q r a => ⟨i, j, rfl, rfl, At.ret r a rfl⟩) hr
theorem op_gtS {rest : SV → SV → DE} (hr : OpSn X P W (compareOp .Gt) rest) : OpSn X P W (compareOp .Gt) (oGt rest) := op_2Ir op_gt (fun F cad e σ H i j Q r a => ⟨i, j, rfl, rfl, At.ret r a rfl⟩) hr
theorem op_geS {rest : SV → SV → DE} (hr : OpSn X P W (compareOp .GtE) rest) : OpSn X P W (compareOp .GtE) (oGe rest) := op_2Ir op_ge (fun F cad e σ H i j Q r a => ⟨i, j, rfl, rfl, At.ret r a rfl⟩) hr
/-! ### == of plain values -/
/-- two ints, two bools, two strings, None beside anything plain: as they are -/
def plainEq : PV → PV → Option Bool
  | .int i, .int j => some (decide (i = j))
  | .bl i, .bl j => some (decide (i = j))
  | .str i, .str j => some (decide (i = j))
  | .non, .non => some true
  | _, _ => none
def oEqP (n : Bool) (rest : SV → SV → DE) : SV → SV → DE := fun x y => match x, y with
  | .pv p, .pv q => match plainEq p q with
    | some b => rBl (if n then !b else b)
    | none => rest x y
  | x, y => rest x y
theorem plainEq_v {F : Hp} {p q : PV} {b : Bool} {x y : V} (h : plainEq p q = some b) (rx : Rep P F p x) (ry : Rep P F q y) : scal x y = true ∧ decide (x = y) = b := by
  unfold plainEq at h
  split at h <;> cases h <;> cases rx <;> cases ry <;> refine ⟨rfl, ?_⟩
  · rw [dec_int, Bool.beq_eq_decide_eq]
  · rw [dec_bl, Bool.beq_eq_decide_eq]
  · rw [dec_str, Bool.beq_eq_decide_eq]
  · rfl
theorem op_eqP {rest : SV → SV → DE} (hr : OpSn X P W (compareOp .Eq) rest) : OpSn X P W (compareOp .Eq) (oEqP false rest) := by
  intro pins s σ H x y v u Q I rx ry hh
  obtain ⟨F, cad, e, sx, sy, r, s1, s2, a⟩ := hh
  unfold oEqP at a
  split at a
  · rename_i p q
    split at a
    · rename_i b hb
      obtain ⟨h1, h2⟩ := plainEq_v hb s1 s2
      exact op_eq pins s σ H x y v u Q I rx ry ⟨h1, At.ret r a (by rw [h2]; rfl)⟩
    · exact hr pins s σ H x y v u Q I rx ry ⟨F, cad, e, _, _, r, s1, s2, a⟩
  · exact hr pins s σ H x y v u Q I rx ry ⟨F, cad, e, _, _, r, s1, s2, a⟩
theorem op_neP {rest : SV → SV → DE} (hr : OpSn X P W (compareOp .NotEq) rest) : OpSn X P W (compareOp .NotEq) (oEqP true rest) := by
  intro pins s σ H x y v u Q I rx ry hh
  obtain ⟨F, cad, e, sx, sy, r, s1, s2, a⟩ := hh
  unfold oEqP at a
  split at a
  · rename_i p q
    split at a
    · rename_i b hb
      obtain ⟨h1, h2⟩ := plainEq_v hb s1 s2
      exact op_ne pins s σ H x y v u Q I rx ry ⟨h1, At.ret r a (by rw [h2]; rfl)⟩
    · exact hr pins s σ H x y v u Q I rx ry ⟨F, cad, e, _, _, r, s1, s2, a⟩
  · exact hr pins s σ H x y v u Q I rx ry ⟨F, cad, e, _, _, r, s1, s2, a⟩
/-! ### texts -/
def oAddS (rest : SV → SV → DE) : SV → SV → DE := fun x y => match x, y with
  | .pv (.str a), .pv (.str b) => if a.length + b.length ≤ 16777216 then retE (.pv (.str (a ++ b))) else badE
  | x, y => rest x y
theorem op_addS {rest : SV → SV → DE} (hr : OpSn X P W (binaryOp .Add) rest) : OpSn X P W (binaryOp .Add) (oAddS rest) := by
  intro pins s σ H x y v u Q I rx ry hh
  obtain ⟨F, cad, e, sx, sy, r, s1, s2, a⟩ := hh
  unfold oAddS at a
  split at a
  · split at a
    · rename_i hz
      cases s1; cases s2
      exact op_add_str pins s σ H _ _ v u Q I rx ry ⟨_, _, rfl, rfl, by rw [sizeLine_eq]; exact hz, At.ret r a rfl⟩
    · exact a.elim
  · exact hr pins s σ H x y v u Q I rx ry ⟨F, cad, e, _, _, r, s1, s2, a⟩
/-! ### list + list, tuple + tuple: new ones -/
def oAddL (rest : SV → SV → DE) : SV → SV → DE := fun x y => match x, y with
  | .pv (.lst a), .pv (.lst b) => if a.length + b.length ≤ 16777216 then retE (.pv (.lst (a ++ b))) else badE
  | x, y => rest x y
theorem op_addL {rest : SV → SV → DE} (hr : OpSn X P W (binaryOp .Add) rest) : OpSn X P W (binaryOp .Add) (oAddL rest) := by
  intro pins s σ H x y v u Q I rx ry hh
  obtain ⟨F, cad, e, sx, sy, r, s1, s2, a⟩ := hh
  unfold oAddL at a
  split at a
  · split at a
    · rename_i hz
      obtain ⟨l, vs, rfl, h1, h2⟩ := s1
      obtain ⟨l', vs', rfl, h1', h2'⟩ := s2
      refine op_cat pins s σ H _ _ v u Q I rx ry ⟨l, l', vs, vs', rfl, rfl, r.c.sub _ _ h1, r.c.sub _ _ h1', by rw [sizeLine_eq, ← h2.length, ← h2'.length]; exact hz, fun p hp => At.retNew r a hp ?_⟩
      exact ⟨p, _, rfl, upd_same, (h2.le (le_upd r.c hp)).append (h2'.le (le_upd r.c hp))⟩
    · exact a.elim
  · exact hr pins s σ H x y v u Q I rx ry ⟨F, cad, e, _, _, r, s1, s2, a⟩
/-! ### one operand -/
def UnSn (X : Cx) (P : Pr) (W : WX) (f : Value → Sem Value) (o : SV → DE) : Prop :=
  ∀ (pins : List (Addr × Obj)) (s : Shared) (σ : L2.St) (H : Hp) (x : V) (v : Value) (Q : VK), Inv X pins σ H s → RelV x v →
    (∃ F cad e sx, Rel P F cad e σ H ∧ RepS P F cad sx x ∧ At P (RepS P) W (o sx) F cad e σ H Q) → wpAny (model X.prog X.w) X.A (f v) (EP X pins σ Q) X.xe s
theorem sn_un {op : UnaryOp} {a : Expr} {da : DE} {o : SV → DE} {pos : Pos} (ho : UnSn X P W (unaryOp op) o) (ha : Sn X P W a da) : Sn X P W (.UnaryOp op a pos) (bindE da o) := by
  refine ⟨fun pins s σ H Q I h => ?_⟩
  obtain ⟨F, cad, e, r, h⟩ := h
  refine UnaryOp_ (thn (ha.run pins s σ H _ I (At.rd r (At.bind (R := RepS P) h))) fun v s1 ⟨x, H1, I1, r1, F1, cad1, sx, e1, b, rr, rx, q⟩ => ?_)
  exact ho pins s1 σ H1 x v Q I1 r1 ⟨F1, cad1, e1, sx, rr, rx, q⟩
def oNegI (rest : SV → DE) : SV → DE := fun x => match x with
  | .pv (.int i) => rI (-i)
  | x => rest x
theorem un_negS {rest : SV → DE} (hr : UnSn X P W (unaryOp .USub) rest) : UnSn X P W (unaryOp .USub) (oNegI rest) := by
  intro pins s σ H x v Q I rx hh
  obtain ⟨F, cad, e, sx, r, s1, a⟩ := hh
  unfold oNegI at a
  split at a
  · cases s1
    exact un_neg pins s σ H _ v Q I rx ⟨_, rfl, At.ret r a rfl⟩
  · exact hr pins s σ H x v Q I rx ⟨F, cad, e, _, r, s1, a⟩
def bad1 : SV → DE := fun _ => badE
theorem un_bad {f : Value → Sem Value} : UnSn X P W f bad1 := by
  intro pins s σ H x v Q I rx hh
  obtain ⟨F, cad, e, sx, r, s1, a⟩ := hh
  exact a.elim
/-! ### and, or, not, if else -/
def tAndD (a b : StE → Out Bool) : StE → Out Bool := bindE a fun c => if c then b else retE false
def tOrD (a b : StE → Out Bool) : StE → Out Bool := bindE a fun c => if c then retE true else b
def tNotD (a : StE → Out Bool) : StE → Out Bool := bindE a fun c => retE (!c)
def SnW (X : Cx) (P : Pr) (W : WX) (x : Expr) (d : StE → Out Bool) : Prop := PW X x (Rd P rB W d)
theorem SnW.t {x : Expr} {d : StE → Out Bool} (h : SnW X P W x d) : SnT X P W x d := PW.pt h
theorem PW.imp {x : Expr} {t t' : TT} (h : PW X x t) (i : ∀ σ H Q, t' σ H Q → t σ H Q) : PW X x t' := ⟨fun wh pins s σ H Q I q => h.run wh pins s σ H Q I (i σ H Q q)⟩
variable {a b c : Expr} {rest : List Expr} {pos : Pos} {tA tB' : StE → Out Bool} {da db : DE}
theorem snw_and1 (ha : SnT X P W a tA) : SnW X P W (.BoolOp .And [a] pos) tA := pw_and1 ha
theorem snw_or1 (ha : SnT X P W a tA) : SnW X P W (.BoolOp .Or [a] pos) tA := pw_or1 ha
theorem snw_and (ha : SnT X P W a tA) (hb : SnW X P W (.BoolOp .And (b :: rest) pos) tB') : SnW X P W (.BoolOp .And (a :: b :: rest) pos) (tAndD tA tB') := by
  refine PW.imp (pw_and ha hb) fun σ H Q h => ?_
  obtain ⟨F, cad, e, r, h⟩ := h
  refine At.rd r ((At.bind (R := rB) h).mono fun v H1 ⟨F1, cad1, x, e1, b, r1, s1, a⟩ => ?_)
  cases s1
  cases v with
  | true => exact At.rd r1 a
  | false => exact At.ret r1 a rfl
theorem snw_or (ha : SnT X P W a tA) (hb : SnW X P W (.BoolOp .Or (b :: rest) pos) tB') : SnW X P W (.BoolOp .Or (a :: b :: rest) pos) (tOrD tA tB') := by
  refine PW.imp (pw_or ha hb) fun σ H Q h => ?_
  obtain ⟨F, cad, e, r, h⟩ := h
  refine At.rd r ((At.bind (R := rB) h).mono fun v H1 ⟨F1, cad1, x, e1, b, r1, s1, a⟩ => ?_)
  cases s1
  cases v with
  | true => exact At.ret r1 a rfl
  | false => exact At.rd r1 a
theorem snt_not (ha : SnT X P W a tA) : SnT X P W (.UnaryOp .Not a pos) (tNotD tA) := by
  refine PT.imp (pt_not ha) fun σ H Q h => ?_
  obtain ⟨F, cad, e, r, h⟩ := h
  refine At.rd r ((At.bind (R := rB) h).mono fun v H1 ⟨F1, cad1, x, e1, b, r1, s1, a⟩ => ?_)
  cases s1
  exact At.ret r1 a rfl
/-- as values: all but the last are truth values -/
def dAndV (a b : DE) : DE := bindE (tB a) fun c => if c then b else rBl false
def dOrV (a b : DE) : DE := bindE (tB a) fun c => if c then rBl true else b
def dNotV (a : DE) : DE := bindE (tB a) fun c => rBl (!c)
theorem Rd.bl2 {γ δ : Type} {R2 : RG γ δ} {d : DE} {k : Bool → StE → Out γ} {σ : L2.St} {H : Hp} {Q : δ → Hp → Prop} (h : Rd P R2 W (bindE (tB d) k) σ H Q) : Rd P (RepS P) W d σ H fun x H1 => ∃ c, x = .bl c ∧ Rd P R2 W (k c) σ H1 Q := by
  obtain ⟨F, cad, e, r, h⟩ := h
  have h1 := At.rd r (At.bind (R := rB) h)
  obtain ⟨F', cad', e', r', h'⟩ := Rd.bl h1
  refine At.rd r' (h'.mono fun v H1 ⟨c, hc, F1, cad1, x, e1, b, r1, s1, a⟩ => ⟨c, hc, ?_⟩)
  cases s1
  exact At.rd r1 a
theorem sn_one {op} (h : Sn X P W a da) : Sn X P W (.BoolOp op [a] pos) da := pe_one h
theorem sn_and (ha : Sn X P W a da) (hb : Sn X P W (.BoolOp .And (b :: rest) pos) db) : Sn X P W (.BoolOp .And (a :: b :: rest) pos) (dAndV da db) := by
  refine PE.imp (pe_and ha hb) fun σ H Q h => ?_
  obtain ⟨F, cad, e, r, h⟩ := Rd.bl2 h
  refine At.rd r (h.mono fun v H1 ⟨c, hc, q⟩ => ⟨c, hc, ?_⟩)
  cases c with
  | true => exact q
  | false => exact Rd.ret q fun _ _ => rfl
theorem sn_or (ha : Sn X P W a da) (hb : Sn X P W (.BoolOp .Or (b :: rest) pos) db) : Sn X P W (.BoolOp .Or (a :: b :: rest) pos) (dOrV da db) := by
  refine PE.imp (pe_or ha hb) fun σ H Q h => ?_
  obtain ⟨F, cad, e, r, h⟩ := Rd.bl2 h
  refine At.rd r (h.mono fun v H1 ⟨c, hc, q⟩ => ⟨c, hc, ?_⟩)
  cases c with
  | true => exact Rd.ret q fun _ _ => rfl
  | false => exact q
theorem sn_not (ha : Sn X P W a da) : Sn X P W (.UnaryOp .Not a pos) (dNotV da) := by
  refine PE.imp (pe_not ha) fun σ H Q h => ?_
  obtain ⟨F, cad, e, r, h⟩ := Rd.bl2 h
  exact At.rd r (h.mono fun v H1 ⟨c, hc, q⟩ => ⟨c, hc, Rd.ret q fun _ _ => rfl⟩)
def dIf (t : StE → Out Bool) (a b : DE) : DE := bindE t fun c => if c then a else b
theorem sn_if (hc : SnT X P W c tA) (ha : Sn X P W a da) (hb : Sn X P W b db) : Sn X P W (.IfExp c a b pos) (dIf tA da db) := by
  refine PE.imp (pe_ifExp hc ha hb) fun σ H Q h => ?_
  obtain ⟨F, cad, e, r, h⟩ := h
  refine At.rd r ((At.bind (R := rB) h).mono fun v H1 ⟨F1, cad1, x, e1, b, r1, s1, a⟩ => ?_)
  cases s1
  cases v with
  | true => exact At.rd r1 a
  | false => exact At.rd r1 a
/-! ### several -/
def dNil : StE → Out (List SV) := retE []
def dCons (a : DE) (r : StE → Out (List SV)) : StE → Out (List SV) := bindE a fun x => bindE r fun xs => retE (x :: xs)
theorem sna_nil : SnA X P W [] dNil := PA.imp pa_nil fun σ H Q h => Rd.ret h fun _ _ => .nil
theorem sna_cons {es : List Expr} {ds : StE → Out (List SV)} (ha : Sn X P W a da) (hr : SnA X P W es ds) (hs : starEach (a :: es) X.env = (false, eval a X.env) :: starEach es X.env := by rfl) : SnA X P W (a :: es) (dCons da ds) := by
  refine PA.imp (pa_cons ha hr hs) fun σ H Q h => ?_
  obtain ⟨F, cad, e, r, h⟩ := h
  refine At.rd r ((At.bind (R := RepS P) h).mono fun v H1 ⟨F1, cad1, x, e1, b1, r1, s1, a1⟩ => ?_)
  refine At.rd r1 ((At.bind (R := RepSs P) a1).mono fun vs H2 ⟨F2, cad2, xs, e2, b2, r2, s2, a2⟩ => ?_)
  exact At.ret r2 a2 (.cons (s1.le b2.le b2.pre) s2)
/-- a written tuple, list -/
def mkTup (xs : List SV) : DE := match pvs xs with
  | some ps => if ps.length ≤ 16777216 then retE (.pv (.tup ps)) else badE
  | none => badE
def mkLst (xs : List SV) : DE := match pvs xs with
  | some ps => if ps.length ≤ 16777216 then retE (.pv (.lst ps)) else badE
  | none => badE
theorem sn_tup {es : List Expr} {ds : StE → Out (List SV)} {x1} (h : SnA X P W es ds) : Sn X P W (.Tuple es x1 pos) (bindE ds mkTup) := by
  refine PE.imp (pe_tup h) fun σ H Q h => ?_
  obtain ⟨F, cad, e, r, h⟩ := h
  refine At.rd r ((At.bind (R := RepSs P) h).mono fun vs H1 ⟨F1, cad1, xs, e1, b1, r1, s1, a1⟩ => ?_)
  unfold mkTup at a1
  split at a1
  · rename_i ps hps
    have rp := pvs_reps s1 hps
    split at a1
    · rename_i hz
      exact ⟨by rw [sizeLine_eq, ← rp.length]; exact hz, fun p hp => At.retNew r1 a1 hp ⟨p, vs, rfl, .inl (.inl upd_same), rp.le (le_upd r1.c hp)⟩⟩
    · exact a1.elim
  · exact a1.elim
theorem sn_lst {es : List Expr} {ds : StE → Out (List SV)} (h : SnA X P W es ds) : Sn X P W (.List es pos) (bindE ds mkLst) := by
  refine PE.imp (pe_lst h) fun σ H Q h => ?_
  obtain ⟨F, cad, e, r, h⟩ := h
  refine At.rd r ((At.bind (R := RepSs P) h).mono fun vs H1 ⟨F1, cad1, xs, e1, b1, r1, s1, a1⟩ => ?_)
  unfold mkLst at a1
  split at a1
  · rename_i ps hps
    have rp := pvs_reps s1 hps
    split at a1
    · rename_i hz
      exact ⟨by rw [sizeLine_eq, ← rp.length]; exact hz, fun p hp => At.retNew r1 a1 hp ⟨p, vs, rfl, upd_same, rp.le (le_upd r1.c hp)⟩⟩
    · exact a1.elim
  · exact a1.elim
/-- a list that changes: it stands by itself -/
def newCell (xs : List SV) : DE := fun e => if xs.length ≤ 16777216 then .ok (.cell e.cs.length) { e with cs := e.cs ++ [some (.l xs)] } else .bad
theorem pre_snoc {α : Type} (l : List α) (x : α) : l <+: l ++ [x] := List.prefix_append _ _
theorem Rel.cell {xs : List SV} {vs : List V} {F H : Hp} {cad : List Addr} {e : StE} {σ : L2.St} (r : Rel P F cad e σ H) (s : RepSs P F cad xs vs) {p : Addr} (hp : H p = none) :
    Rel P F (cad ++ [p]) { e with cs := e.cs ++ [some (.l xs)] } σ (upd H p (.lst vs)) := by
  have np : p ∉ cad := fun z => r.c.at_ p z hp
  have fp : F p = none := by
    cases q : F p with
    | none => rfl
    | some o =>
      have := r.c.sub _ _ q
      rw [hp] at this
      cases this
  refine ⟨⟨fun b u hb => ?_, ?_, by simp [r.c.len], fun a ha => ?_, fun k ys hk => ?_⟩, r.sl, fun i x hx => ?_⟩
  · rw [upd_ne (fun z => by subst z; rw [fp] at hb; cases hb)]
    exact r.c.sub b u hb
  · refine List.nodup_append.mpr ⟨r.c.nd, by simp, fun x hx y hy z => ?_⟩
    rw [List.mem_singleton.mp hy] at z
    subst z
    exact np hx
  · rcases List.mem_append.mp ha with h | h
    · rw [upd_ne (fun z => by subst z; exact np h)]
      exact r.c.at_ a h
    · rw [List.mem_singleton.mp h, upd_same]
      intro z
      cases z
  · have hk : (e.cs ++ [some (.l xs)])[k]? = some (some ys) := hk
    by_cases hlt : k < e.cs.length
    · rw [List.getElem?_append_left hlt] at hk
      obtain ⟨a, h1, h2, h3⟩ := r.c.cell k ys hk
      refine ⟨a, ?_, h2, h3.le (Le.refl F) (pre_snoc _ _) fun o q => keep_upd hp _ _ q⟩
      rw [List.getElem?_append_left (by rw [← r.c.len]; exact hlt)]
      exact h1
    · rw [List.getElem?_append_right (Nat.le_of_not_lt hlt)] at hk
      have e0 : k - e.cs.length = 0 := by
        cases q : k - e.cs.length with
        | zero => rfl
        | succ n => rw [q] at hk; simp at hk
      rw [e0] at hk
      have e1 : k = e.cs.length := by omega
      simp at hk
      subst hk
      refine ⟨p, ?_, fp, vs, upd_same, s.le (Le.refl F) (pre_snoc _ _)⟩
      rw [e1, r.c.len]
      simp
  · obtain ⟨v, h1, h2⟩ := r.slot i x hx
    exact ⟨v, h1, h2.le (Le.refl F) (pre_snoc _ _)⟩
theorem newCell_ok {xs : List SV} {vs : List V} {F H : Hp} {cad : List Addr} {e : StE} {σ : L2.St} {Q : VK} (r : Rel P F cad e σ H) (s : RepSs P F cad xs vs) (a : At P (RepS P) W (newCell xs) F cad e σ H Q) :
    vs.length ≤ sizeLine ∧ ∀ p, H p = none → Q (.ref p) (upd H p (.lst vs)) := by
  unfold At newCell at a
  split at a
  · rename_i hz
    refine ⟨by rw [sizeLine_eq, ← s.length]; exact hz, fun p hp => a (.ref p) _ ⟨F, cad ++ [p], ⟨Le.refl F, pre_snoc _ _, fun x hx hn => ?_, fun x o h _ => by rw [upd_ne (ne_of_none h hp)]; exact h, fun _ _ h => .inl h⟩, r.cell s hp, ⟨p, ?_, rfl⟩⟩⟩
    · rcases List.mem_append.mp hx with h | h
      · exact absurd h hn
      · rw [List.mem_singleton.mp h]; exact hp
    · rw [r.c.len]
      simp
  · exact a.elim
theorem sn_cell {es : List Expr} {ds : StE → Out (List SV)} (h : SnA X P W es ds) : Sn X P W (.List es pos) (bindE ds newCell) := by
  refine PE.imp (pe_lst h) fun σ H Q h => ?_
  obtain ⟨F, cad, e, r, h⟩ := h
  refine At.rd r ((At.bind (R := RepSs P) h).mono fun vs H1 ⟨F1, cad1, xs, e1, b1, r1, s1, a1⟩ => ?_)
  exact newCell_ok r1 s1 a1
end
end Sh
namespace Sh
open PySem PySem.Spec PyProof.Rows L2
/-! # Statements, calls -/
def SatS (P : Pr) (W : WX) (F : Hp) (cad : List Addr) (H : Hp) (D : Ends) : Out Fl → Prop
  | .ok .nx e' => ∀ σ' H', (∃ F' cad', Ext F cad H F' cad' H' ∧ Rel P F' cad' e' σ' H') → D.nx σ' H'
  | .ok .bk e' => ∀ σ' H', (∃ F' cad', Ext F cad H F' cad' H' ∧ Rel P F' cad' e' σ' H') → D.bk σ' H'
  | .ok .ct e' => ∀ σ' H', (∃ F' cad', Ext F cad H F' cad' H' ∧ Rel P F' cad' e' σ' H') → D.ct σ' H'
  | .ok (.rt x) e' => ∀ v H', (∃ F' cad', Ext F cad H F' cad' H' ∧ RelC P F' cad' e'.cs H' ∧ RepS P F' cad' x v) → D.rt v H'
  | .exc c fs e' => ∀ cls dx σ' H', (∃ F' cad', Ext F cad H F' cad' H' ∧ Rel P F' cad' e' σ' H' ∧ RepX P F' c fs cls dx) → W cls dx σ' H'
  | .bad => False
def AtS (P : Pr) (W : WX) (d : DS) (F : Hp) (cad : List Addr) (e : StE) (H : Hp) (D : Ends) : Prop := SatS P W F cad H D (d e)
def RdS (P : Pr) (W : WX) (d : DS) : TS := fun D σ H => ∃ F cad e, Rel P F cad e σ H ∧ AtS P W d F cad e H D
def SnS (X : Cx) (P : Pr) (W : WX) (x : Stmt) (d : DS) : Prop := PS X x (RdS P W d)
def SnSs (X : Cx) (P : Pr) (W : WX) (x : List Stmt) (d : DS) : Prop := PSs X x (RdS P W d)
section
variable {P : Pr} {W : WX} {F F1 H H1 : Hp} {cad cad1 : List Addr} {D D' : Ends}
theorem SatS.ext {o : Out Fl} (a : Ext F cad H F1 cad1 H1) (h : SatS P W F cad H D o) : SatS P W F1 cad1 H1 D o := by
  cases o with
  | ok f e' =>
    cases f <;> exact fun v H' ⟨F', cad', b, q⟩ => h v H' ⟨F', cad', a.trans b, q⟩
  | exc c fs e' => exact fun cls dx σ' H' ⟨F', cad', b, q⟩ => h cls dx σ' H' ⟨F', cad', a.trans b, q⟩
  | bad => exact h
theorem AtS.rd {d : DS} {e : StE} {σ : L2.St} (r : Rel P F cad e σ H) (h : AtS P W d F cad e H D) : RdS P W d D σ H := ⟨F, cad, e, r, h⟩
end
/-! ### blocks -/
def sNil : DS := retE .nx
def sSeq (a b : DS) : DS := fun e => match a e with
  | .ok .nx e' => b e'
  | o => o
section
variable {X : Cx} {P : Pr} {W : WX} {st : Stmt} {rest : List Stmt} {a b : DS} {de : DE} {e : Expr} {pos : Pos}
theorem seq_read {t u : TS} (h1 : ∀ D σ H, RdS P W a D σ H → t D σ H) (h2 : ∀ D σ H, RdS P W b D σ H → u D σ H) : ∀ D σ H, RdS P W (sSeq a b) D σ H → tSeq (RdS P W a) (RdS P W b) D σ H := by
  intro D σ H h
  obtain ⟨F, cad, e, r, h⟩ := h
  refine ⟨F, cad, e, r, ?_⟩
  unfold AtS sSeq at h
  unfold AtS
  cases q : a e with
  | ok f e' =>
    rw [q] at h
    cases f with
    | nx => exact fun σ' H' ⟨F', cad', b', r'⟩ => ⟨F', cad', e', r', SatS.ext b' h⟩
    | bk => exact h
    | ct => exact h
    | rt x => exact h
  | exc c fs e' => rw [q] at h; exact h
  | bad => rw [q] at h; exact h
theorem sns_nil : SnSs X P W [] sNil := PSs.imp pss_nil fun D σ H h => by
  obtain ⟨F, cad, e, r, h⟩ := h
  exact h σ H ⟨F, cad, Ext.refl _ _ _, r⟩
theorem sns_cons (ha : SnS X P W st a) (hb : SnSs X P W rest b) : SnSs X P W (st :: rest) (sSeq a b) := PSs.imp (pss_cons ha hb) (seq_read (fun _ _ _ h => h) fun _ _ _ h => h)
theorem sns_one (ha : SnS X P W st a) : SnSs X P W [st] a := pss_one ha
theorem sns_pass : SnS X P W (.Pass pos) sNil := PS.imp ps_pass fun D σ H h => by
  obtain ⟨F, cad, e, r, h⟩ := h
  exact h σ H ⟨F, cad, Ext.refl _ _ _, r⟩
theorem sns_doc {x j pos pos'} : SnS X P W (.Expr (.Constant (.str x) j pos) pos') sNil := PS.imp ps_doc fun D σ H h => by
  obtain ⟨F, cad, e, r, h⟩ := h
  exact h σ H ⟨F, cad, Ext.refl _ _ _, r⟩
def sBreak : DS := retE .bk
def sCont : DS := retE .ct
theorem sns_break : SnS X P W (.Break pos) sBreak := PS.imp ps_break fun D σ H h => by
  obtain ⟨F, cad, e, r, h⟩ := h
  exact h σ H ⟨F, cad, Ext.refl _ _ _, r⟩
theorem sns_cont : SnS X P W (.Continue pos) sCont := PS.imp ps_continue fun D σ H h => by
  obtain ⟨F, cad, e, r, h⟩ := h
  exact h σ H ⟨F, cad, Ext.refl _ _ _, r⟩
/-- code that the proof never comes to -/
def sBad : DS := badE
theorem sns_bad : SnS X P W st sBad := PS.imp ps_never fun D σ H h => by
  obtain ⟨F, cad, e, r, h⟩ := h
  exact h.elim
/-- an expression first, then a statement's own end -/
def thenS {α : Type} (d : StE → Out α) (k : α → DS) : DS := bindE d k
theorem AtS.bind {α β : Type} {R : RG α β} {d : StE → Out α} {k : α → DS} {F H : Hp} {cad : List Addr} {e : StE} {σ : L2.St} {D : Ends} (h : AtS P W (thenS d k) F cad e H D) :
    At P R W d F cad e σ H (fun v H1 => ∃ F1 cad1 x e1, Ext F cad H F1 cad1 H1 ∧ Rel P F1 cad1 e1 σ H1 ∧ R F1 cad1 x v ∧ AtS P W (k x) F1 cad1 e1 H1 D) := by
  unfold AtS thenS bindE at h
  unfold At
  cases q : d e with
  | ok x e' =>
    rw [q] at h
    intro v H' ⟨F', cad', b, r, s⟩
    exact ⟨F', cad', x, e', b, r, s, SatS.ext b h⟩
  | exc c fs e' =>
    rw [q] at h
    exact fun cls dx H' ⟨F', cad', b, r, s⟩ => h cls dx σ H' ⟨F', cad', b, r, s⟩
  | bad => rw [q] at h; exact h
def sRet (d : DE) : DS := thenS d fun x => retE (.rt x)
theorem sns_ret (h : Sn X P W e de) : SnS X P W (.Return (some e) pos) (sRet de) := PS.imp (ps_ret h) fun D σ H h => by
  obtain ⟨F, cad, e, r, h⟩ := h
  refine At.rd r ((AtS.bind (R := RepS P) h).mono fun v H1 ⟨F1, cad1, x, e1, b, r1, s1, a1⟩ => ?_)
  exact a1 v H1 ⟨F1, cad1, Ext.refl _ _ _, r1.c, s1⟩
def sRetN : DS := retE (.rt (.pv .non))
theorem sns_retN : SnS X P W (.Return none pos) sRetN := PS.imp ps_retN fun D σ H h => by
  obtain ⟨F, cad, e, r, h⟩ := h
  exact h .non H ⟨F, cad, Ext.refl _ _ _, r.c, rfl⟩
def sDrop (d : DE) : DS := thenS d fun _ => retE .nx
theorem sns_expr (h : Sn X P W e de) (hs : swapsWith e none pos.line X.env = pure false := by rfl) : SnS X P W (.Expr e pos) (sDrop de) := PS.imp (ps_expr h hs) fun D σ H h => by
  obtain ⟨F, cad, e, r, h⟩ := h
  refine At.rd r ((AtS.bind (R := RepS P) h).mono fun v H1 ⟨F1, cad1, x, e1, b, r1, s1, a1⟩ => ?_)
  exact a1 σ H1 ⟨F1, cad1, Ext.refl _ _ _, r1⟩
def sIf (t : StE → Out Bool) (a b : DS) : DS := thenS t fun c => if c then a else b
theorem sns_if {c : Expr} {x y : List Stmt} {t : StE → Out Bool} (hc : SnT X P W c t) (ha : SnSs X P W x a) (hb : SnSs X P W y b) : SnS X P W (.If c x y pos) (sIf t a b) := PS.imp (ps_if hc ha hb) fun D σ H h => by
  obtain ⟨F, cad, e, r, h⟩ := h
  refine At.rd r ((AtS.bind (R := rB) h).mono fun v H1 ⟨F1, cad1, x, e1, b, r1, s1, a1⟩ => ?_)
  cases s1
  cases v with
  | true => exact AtS.rd r1 a1
  | false => exact AtS.rd r1 a1
/-! ### stores -/
def setSl (i : Nat) (x : SV) (e : StE) : StE := { e with sl := e.sl.set i (some x) }
theorem Rel.set {F H : Hp} {cad : List Addr} {e : StE} {σ : L2.St} (r : Rel P F cad e σ H) (i : Nat) {x : SV} {v : V} (s : RepS P F cad x v) : Rel P F cad (setSl i x e) (σ.set i (some v)) H := by
  refine ⟨r.c, by simp [setSl, r.sl], fun j y h => ?_⟩
  have h : (e.sl.set i (some x))[j]? = some (some y) := h
  by_cases q : i = j
  · subst q
    by_cases z : i < e.sl.length
    · rw [List.getElem?_set_self z] at h
      cases h
      exact ⟨v, by rw [List.getElem?_set_self (by rw [← r.sl]; exact z)], s⟩
    · rw [List.getElem?_eq_none (by simpa using z)] at h
      cases h
  · rw [List.getElem?_set_ne q] at h ⊢
    exact r.slot j y h
def sSet (i : Nat) (d : DE) : DS := thenS d fun x e => .ok .nx (setSl i x e)
theorem sns_set {i : Nat} {x : Str} {pos' : Pos} (hN : X.N.Nodup) (hi : X.N[i]? = some x) (hx : Loc X.env.scope x) (he : Sn X P W e de) (hs : swapsWith e (some (.Name x pos')) pos.line X.env = pure false := by rfl)
    (hf : X.fn x = true ∨ X.env.scope.names.lookup x = some .local := by first | exact .inl rfl | exact .inr rfl | assumption) : SnS X P W (.Assign [.Name x pos'] e pos) (sSet i de) := PS.imp (ps_set hN hi hx he hs hf) fun D σ H h => by
  obtain ⟨F, cad, e, r, h⟩ := h
  refine At.rd r ((AtS.bind (R := RepS P) h).mono fun v H1 ⟨F1, cad1, x, e1, b, r1, s1, a1⟩ => ?_)
  exact a1 (σ.set i (some v)) H1 ⟨F1, cad1, Ext.refl _ _ _, r1.set i s1⟩
end
/-! ### what a def promises -/
abbrev DF := List SV → Cs → Out SV
def SatF (P : Pr) (F : Hp) (cad : List Addr) (H : Hp) (Q : VK) (E : XK) : Out SV → Prop
  | .ok x e' => ∀ v H', (∃ F' cad', Ext F cad H F' cad' H' ∧ RelC P F' cad' e'.cs H' ∧ RepS P F' cad' x v) → Q v H'
  | .exc c fs e' => ∀ cls dx H', (∃ F' cad', Ext F cad H F' cad' H' ∧ RelC P F' cad' e'.cs H' ∧ RepX P F' c fs cls dx) → E cls dx H'
  | .bad => False
def SpF (P : Pr) (d : DF) : Sp := fun vs H Q E => ∃ F cad cs xs, RelC P F cad cs H ∧ RepSs P F cad xs vs ∧ SatF P F cad H Q E (d xs cs)
/-- the def at f computes d; k: room; g: whether nothing may be under way around it -/
structure FnD (prog : Program) (w : World) (K : PySem.W.Frag) (mg : Str → Option Value) (base : Heap) (P : Pr) (k : Nat) (g : Bool) (f : Addr) (fd : FuncData) (ps : List Str) (d : DF) : Prop where
  run : ∀ (A : Around) (outer : List Env) (s : Shared) (H : Hp) (args : Args) (us : List Value) (vs : List V) (Q : VK) (E : XK), Room k A → (g = true → A.guards = some []) → Env0 prog w K mg base A outer s H → BindsTo s fd args (ps.zip us) →
    Vals vs us → vs.length = ps.length → SpF P d vs H Q E → codeAny (model prog w) A (.call (.ref f) args) (CR (L2.CX prog w) outer prog w H s Q E) s
/-- what a body makes of the arguments -/
def runB (n : Nat) (d : DS) : DF := fun xs cs => match d ⟨xs.map some ++ List.replicate (n - xs.length) none, cs⟩ with
  | .ok (.rt x) e => .ok x ⟨[], e.cs⟩
  | .ok .nx e => .ok (.pv .non) ⟨[], e.cs⟩
  | .exc c fs e => .exc c fs ⟨[], e.cs⟩
  | _ => .bad
theorem rel_start {P : Pr} {F H : Hp} {cad : List Addr} {cs : Cs} {xs : List SV} {vs : List V} {N : List Str} (r : RelC P F cad cs H) (s : RepSs P F cad xs vs) : Rel P F cad ⟨xs.map some ++ List.replicate (N.length - xs.length) none, cs⟩ (L2.start N vs) H := by
  refine ⟨r, ?_, fun i x h => ?_⟩
  · unfold L2.start
    simp only [List.length_append, List.length_map, List.length_replicate, s.length]
  · have h : (xs.map some ++ List.replicate (N.length - xs.length) none)[i]? = some (some x) := h
    by_cases q : i < xs.length
    · rw [List.getElem?_append_left (by simpa using q), List.getElem?_map] at h
      cases z : xs[i]? with
      | none => rw [z] at h; cases h
      | some y =>
        rw [z] at h
        cases h
        obtain ⟨v, h1, h2⟩ := s.get z
        refine ⟨v, ?_, h2⟩
        unfold L2.start
        rw [List.getElem?_append_left (by rw [List.length_map, ← s.length]; exact q), List.getElem?_map, h1]
        rfl
    · rw [List.getElem?_append_right (by simpa using Nat.le_of_not_lt q), List.getElem?_replicate] at h
      split at h <;> cases h
theorem FnD.of_body {prog : Program} {w : World} {K : PySem.W.Frag} {mg : Str → Option Value} {base : Heap} {P : Pr} {k : Nat} {g : Bool} {f : Addr} {name qual : Str} {params : Arguments} {body : List Stmt} {scope : Scope} {dV kV doc pm cdv ct oc : Value} {an od : Option Addr}
    {osl : Array (Option Value)} {N ps : List Str} {d : DS} (lk : K.lookup f = some ⟨oc, od, .func (PySem.W.fnOf name qual params body scope dV kV doc pm an cdv ct), osl⟩) (hcd : PySem.W.codeIn K cdv qual = true) (S : FnScope N ps scope)
    (hb : ∀ (A : Around) (outer : List Env) (s : Shared) (H : Hp) (E : XK), Room k (A.deeper (envOfC qual scope s.heap.objs.size f cdv)) → (g = true → A.guards = some []) →
      SnSs (cxOf (L2.CX prog w) prog w K mg base N qual scope f cdv A outer s H E) P (fun cls dx _ H' => E cls dx H') body d) :
    FnD prog w K mg base P (k + 1) g f (PySem.W.fnOf name qual params body scope dV kV doc pm an cdv ct) ps (runB N.length d) := by
  refine ⟨fun A outer s H args us vs Q E hr hg e0 hbind r hl hsp => ?_⟩
  refine LamX.run_ofS lk hcd S hr e0 hbind r hl fun hr' => ⟨_, hb A outer s H E hr' hg, ?_⟩
  obtain ⟨F, cad, cs, xs, rc, rs, h⟩ := hsp
  refine ⟨F, cad, _, rel_start rc rs, ?_⟩
  unfold runB at h
  unfold AtS
  split at h
  · rename_i x e q
    rw [q]
    exact fun v H' ⟨F', cad', b, r', s'⟩ => h v H' ⟨F', cad', b, r', s'⟩
  · rename_i e q
    rw [q]
    exact fun σ' H' ⟨F', cad', b, r'⟩ => h .non H' ⟨F', cad', b, r'.c, rfl⟩
  · rename_i c fs e q
    rw [q]
    exact fun cls dx σ' H' ⟨F', cad', b, r', s'⟩ => h cls dx H' ⟨F', cad', b, r'.c, s'⟩
  · exact h.elim
section
variable {X : Cx} {P : Pr} {W : WX} {k : Nat} {g : Bool} {f : Addr} {fd : FuncData} {ps : List Str} {d : DF}
/-- the callee runs -/
theorem FnD.call (T : FnD X.prog X.w X.K X.mg X.base P k g f fd ps d) (hr : Room k X.A) (hg : g = true → X.A.guards = some []) (tk : Takes X W) {pins : List (Addr × Obj)} {σ : L2.St} {H : Hp} {s : Shared} {us : List Value} {vs : List V} {args : List Value} {kw : List (Str × Value)} {Q : VK}
    (I : Inv X pins σ H s) (hb : BindsTo s fd ⟨args, kw⟩ (ps.zip us)) (r : Vals vs us) (hl : vs.length = ps.length) {F : Hp} {cad : List Addr} {cs : Cs} {xs : List SV} (rc : RelC P F cad cs H) (rs : RepSs P F cad xs vs) (h : SatF P F cad H Q (fun cls dx H' => W cls dx σ H') (d xs cs)) :
    wpAny (model X.prog X.w) X.A (call (.ref f) args kw) (EP X pins σ Q) X.xe s := by
  refine wpAny_call (codeAny_mono (T.run X.A X.stack s H ⟨args, kw⟩ us vs Q (fun cls dx H' => W cls dx σ H') hr hg I.env0 hb r hl ⟨F, cad, cs, xs, rc, rs, h⟩) fun o s' q => ?_)
  rcases o with er | fl
  · exact tk er s' (XE.of_call I (fun _ _ _ z => z) q)
  · cases fl <;> first | exact q.elim | exact I.after q
/-- called with plain values: it sees none of the caller's lists -/
def callP (d : DF) (xs : List SV) : DE := fun e => match pvs xs with
  | some _ => match d xs [] with
    | .ok (.pv p) _ => .ok (.pv p) e
    | .exc c fs _ => .exc c fs e
    | _ => .bad
  | none => .bad
/-- called with lists that may change: they are shared -/
def callS (d : DF) (xs : List SV) : DE := fun e => match d xs e.cs with
  | .ok x e' => .ok x { e with cs := e'.cs }
  | .exc c fs e' => .exc c fs { e with cs := e'.cs }
  | .bad => .bad
theorem relc_none {F H : Hp} (h : Le F H) : RelC P F [] [] H := ⟨h, List.nodup_nil, rfl, fun a ha => absurd ha (by simp), fun k xs h => by simp at h⟩
theorem pvs_nocad {F : Hp} {cad : List Addr} {xs : List SV} {vs : List V} (s : RepSs P F cad xs vs) : ∀ {ps : List PV}, pvs xs = some ps → RepSs P F [] xs vs := by
  induction s with
  | nil => exact fun _ => .nil
  | @cons x v xs vs h t ih =>
    intro ps e
    cases x with
    | cell k => cases e
    | pv p =>
      unfold pvs at e
      cases q : pvs xs with
      | none => rw [q] at e; cases e
      | some r => exact .cons h (ih q)
/-- behind a call that saw none of our lists -/
theorem Ext.wide {F F' H H' : Hp} {cad cad' : List Addr} (a : Ext F [] H F' cad' H') : Ext F cad H F' cad H' :=
  ⟨a.le, List.prefix_refl _, fun x h n => absurd h n, fun x o h _ => a.keep x o h (by simp), fun x o h => (a.fz x o h).imp id fun z => z.elim .inl fun z => absurd z (by simp)⟩
theorem Rel.wide {F F' H H' : Hp} {cad cad' : List Addr} {cs' : Cs} {e : StE} {σ : L2.St} (r : Rel P F cad e σ H) (a : Ext F [] H F' cad' H') (c : RelC P F' cad' cs' H') : Rel P F' cad e σ H' := by
  refine ⟨⟨c.sub, r.c.nd, r.c.len, fun x hx => ?_, fun i xs h => ?_⟩, r.sl, fun i x h => ?_⟩
  · cases q : H x with
    | none => exact absurd q (r.c.at_ x hx)
    | some o => rw [a.keep x o q (by simp)]; intro z; cases z
  · obtain ⟨x, h1, h2, h3⟩ := r.c.cell i xs h
    refine ⟨x, h1, ?_, h3.le a.le (List.prefix_refl _) fun o q => a.keep x o q (by simp)⟩
    obtain ⟨u, hu⟩ := h3.there
    cases q : F' x with
    | none => rfl
    | some o =>
      rcases a.fz x o q with z | z | z
      · rw [h2] at z; cases z
      · rw [hu] at z; cases z
      · exact absurd z (by simp)
  · obtain ⟨v, h1, h2⟩ := r.slot i x h
    exact ⟨v, h1, h2.le a.le (List.prefix_refl _)⟩
theorem callP_ok {F H : Hp} {cad : List Addr} {e : StE} {σ : L2.St} {Q : VK} {xs : List SV} {vs : List V} (r : Rel P F cad e σ H) (s : RepSs P F cad xs vs) (a : At P (RepS P) W (callP d xs) F cad e σ H Q) :
    ∃ F cad cs ys, RelC P F cad cs H ∧ RepSs P F cad ys vs ∧ SatF P F cad H Q (fun cls dx H' => W cls dx σ H') (d ys cs) := by
  unfold At callP at a
  split at a
  · rename_i ps hps
    refine ⟨F, [], [], xs, relc_none r.c.sub, pvs_nocad s hps, ?_⟩
    split at a
    · rename_i p e' q
      rw [q]
      exact fun v H' ⟨F', cad', b, c, z⟩ => a v H' ⟨F', cad, b.wide, r.wide b c, z⟩
    · rename_i c fs e' q
      rw [q]
      exact fun cls dx H' ⟨F', cad', b, c, z⟩ => a cls dx H' ⟨F', cad, b.wide, r.wide b c, z⟩
    · exact a.elim
  · exact a.elim
theorem callS_ok {F H : Hp} {cad : List Addr} {e : StE} {σ : L2.St} {Q : VK} {xs : List SV} {vs : List V} (r : Rel P F cad e σ H) (s : RepSs P F cad xs vs) (a : At P (RepS P) W (callS d xs) F cad e σ H Q) :
    ∃ F cad cs ys, RelC P F cad cs H ∧ RepSs P F cad ys vs ∧ SatF P F cad H Q (fun cls dx H' => W cls dx σ H') (d ys cs) := by
  unfold At callS at a
  refine ⟨F, cad, e.cs, xs, r.c, s, ?_⟩
  have go : ∀ {F' H' : Hp} {cad' : List Addr} {cs' : Cs}, Ext F cad H F' cad' H' → RelC P F' cad' cs' H' → Rel P F' cad' { e with cs := cs' } σ H' := fun b c => ⟨c, r.sl, fun i x h => by
    obtain ⟨v, h1, h2⟩ := r.slot i x h
    exact ⟨v, h1, h2.le b.le b.pre⟩⟩
  cases q : d xs e.cs with
  | ok x e' =>
    rw [q] at a
    exact fun v H' ⟨F', cad', b, c, z⟩ => a v H' ⟨F', cad', b, go b c, z⟩
  | exc c fs e' =>
    rw [q] at a
    exact fun cls dx H' ⟨F', cad', b, c, z⟩ => a cls dx H' ⟨F', cad', b, go b c, z⟩
  | bad => rw [q] at a; exact a.elim
/-- either -/
def CallD (P : Pr) (W : WX) (d : DF) (o : List SV → DE) : Prop := ∀ (F H : Hp) (cad : List Addr) (e : StE) (σ : L2.St) (Q : VK) (xs : List SV) (vs : List V), Rel P F cad e σ H → RepSs P F cad xs vs → At P (RepS P) W (o xs) F cad e σ H Q →
    ∃ F cad cs ys, RelC P F cad cs H ∧ RepSs P F cad ys vs ∧ SatF P F cad H Q (fun cls dx H' => W cls dx σ H') (d ys cs)
theorem cdP : CallD P W d (callP d) := fun _ _ _ _ _ _ _ _ r s a => callP_ok r s a
theorem cdS : CallD P W d (callS d) := fun _ _ _ _ _ _ _ _ r s a => callS_ok r s a
/-- values that stand for themselves: defaults -/
def RepD (P : Pr) (xs : List SV) (vs : List V) : Prop := ∀ F cad, RepSs P F cad xs vs
theorem repD_nil : RepD P [] [] := fun _ _ => .nil
theorem repD_int {i : Int} {xs : List SV} {vs : List V} (h : RepD P xs vs) : RepD P (.pv (.int i) :: xs) (.int i :: vs) := fun F cad => .cons rfl (h F cad)
theorem repD_non {xs : List SV} {vs : List V} (h : RepD P xs vs) : RepD P (.pv .non :: xs) (.non :: vs) := fun F cad => .cons rfl (h F cad)
variable {e : Expr} {es : List Expr} {da : StE → Out (List SV)} {o : List SV → DE} {x : Str} {p pos : Pos} {sds : List SV} {dvs : List V} {ds : List Value}
/-- f(e, ..); sds: the defaults that fill up -/
theorem sn_call (T : FnD X.prog X.w X.K X.mg X.base P k g f fd ps d) (hr : Room k X.A) (hg : g = true → X.A.guards = some []) (tk : Takes X W) (hG : Gl X x) (hm : X.mg x = some (.ref f)) (hk : PySem.W.keepIn X.K (.ref f) = true) (hb : Binds X.K fd ps ds) (hd : Vals dvs ds) (hs : RepD P sds dvs)
    (hn : (e :: es).length + dvs.length = ps.length) (hc : CallD P W d o) (ha : SnA X P W (e :: es) da) (hdb : (x == ("__debug__" : Str)) = false := by decide) (he : starEach (e :: es) X.env = (false, eval e X.env) :: starEach es X.env := by rfl)
    (hpl : (backTo pos (starEach es X.env)).any (·.1) = false := by rfl) : Sn X P W (.Call (.Name x p) (e :: es) [] pos) (bindE da fun xs => if xs.length = (e :: es).length then o (xs ++ sds) else badE) := by
  refine ⟨fun pins s σ H Q I h => ?_⟩
  refine wpAny_Call_Name_kw (ld_glob I hG hm ?_ hdb)
  obtain ⟨F, cad, st, r, h⟩ := h
  refine PySem.W.callWith_K (h₀ := X.base) I.ok.mod.kin hk (thn (ha.run pos pins s σ H _ I (At.rd r (At.bind (R := RepSs P) h))) fun us s1 ⟨vs, H1, I1, rv, F1, cad1, xs, e1, b1, r1, s1', a1⟩ => ⟨I1.kIn, ?_⟩) he hpl
  dsimp only at a1
  by_cases hx : xs.length = (e :: es).length
  · rw [if_pos hx] at a1
    obtain ⟨F2, cad2, cs2, ys, rc, rs, hsat⟩ := hc _ _ _ _ _ _ _ (vs ++ dvs) r1 (s1'.append (hs F1 cad1)) a1
    have hl : (vs ++ dvs).length = ps.length := by rw [List.length_append, ← s1'.length, hx, hn]
    have rr := rv.append hd
    exact T.call hr hg tk I1 (hb s1 us I1.kIn (by rw [← rr.length]; exact hl)) rr hl rc rs hsat
  · rw [if_neg hx] at a1
    exact a1.elim
end
end Sh
namespace Sh
open PySem PySem.Spec PyProof.Rows L2
/-! # Instances -/
theorem nd_ix {α : Type} {l : List α} (nd : l.Nodup) : ∀ {i j : Nat} {x : α}, l[i]? = some x → l[j]? = some x → i = j := by
  induction l with
  | nil => intro i j x h; simp at h
  | cons a l ih =>
    obtain ⟨h1, h2⟩ := List.nodup_cons.mp nd
    intro i j x hi hj
    cases i with
    | zero =>
      cases j with
      | zero => rfl
      | succ j =>
        simp at hi hj
        subst hi
        exact absurd (List.mem_of_getElem? hj) h1
    | succ i =>
      cases j with
      | zero =>
        simp at hi hj
        subst hj
        exact absurd (List.mem_of_getElem? hi) h1
      | succ j => exact congrArg Nat.succ (ih h2 (by simpa using hi) (by simpa using hj))
theorem zip_look {α : Type} : ∀ {fs : List Str} {vs : List α} {j : Nat} {f : Str}, fs.Nodup → fs.length = vs.length → fs[j]? = some f → (fs.zip vs).lookup f = vs[j]?
  | [], _, j, f, _, _, h => by simp at h
  | g :: fs, [], _, _, _, hl, _ => by simp at hl
  | g :: fs, v :: vs, j, f, nd, hl, h => by
    rw [List.zip_cons_cons, List.lookup_cons]
    cases j with
    | zero =>
      simp at h
      subst h
      simp
    | succ j =>
      have hj : fs[j]? = some f := by simpa using h
      have ne : (f == g) = false := by
        rw [beq_eq_false_iff_ne]
        intro z
        subst z
        exact (List.nodup_cons.mp nd).1 (List.mem_of_getElem? hj)
      rw [ne]
      simpa using zip_look (List.nodup_cons.mp nd).2 (by simpa using hl) hj
theorem zip_look_none {α : Type} {fs : List Str} {vs : List α} {f : Str} (h : f ∉ fs) : (fs.zip vs).lookup f = none := by
  induction fs generalizing vs with
  | nil => simp
  | cons g fs ih =>
    cases vs with
    | nil => simp
    | cons v vs =>
      rw [List.zip_cons_cons, List.lookup_cons]
      have ne : (f == g) = false := by
        rw [beq_eq_false_iff_ne]
        intro z
        exact h (by rw [z]; exact List.mem_cons_self)
      rw [ne]
      exact ih fun z => h (List.mem_cons_of_mem _ z)
section
variable {X : Cx} {P : Pr} {W : WX} {e o : Expr} {es : List Expr} {f m : Str} {pos apos p : Pos} {da db : DE} {das : StE → Out (List SV)} {c j k n : Nat} {ci : CI} {g : Bool} {fa : Addr} {fd : FuncData} {ps : List Str} {d : DF}
/-- the j-th field of an instance of the c-th class -/
def dFld (c j : Nat) (da : DE) : DE := bindE da fun x => match x with
  | .pv (.ins c' ps) => if c' = c then match ps[j]? with
    | some p => retE (.pv p)
    | none => badE
    else badE
  | _ => badE
theorem sn_fld (ha : Sn X P W e da) (hK : X.K = P.K) (hT : P.T c = some ci) (hc : Cls X.K ci.C) (hn : NoAttr X.K ci.C f) (nd : ci.fs.Nodup) (hf : ci.fs[j]? = some f) (hb : attributeBase e f X.env (eval e X.env) = eval e X.env := by rfl) : Sn X P W (.Attribute e f pos) (dFld c j da) := by
  refine PE.imp (pe_fld ha hb) fun σ H Q h => ?_
  obtain ⟨F, cad, st, r, h⟩ := h
  refine At.rd r ((At.bind (R := RepS P) h).mono fun v H1 ⟨F1, cad1, x, e1, b, r1, s1, a⟩ => ?_)
  dsimp only at a
  split at a
  · rename_i c' qs
    split at a
    · rename_i hcc
      subst hcc
      split at a
      · rename_i q hq
        obtain ⟨a', ci', dx, vs, rfl, h1, h2, h3, h4⟩ := s1
        rw [hT] at h1
        cases h1
        obtain ⟨u, hu, ru⟩ := h4.get hq
        exact ⟨a', ci.C, dx, _, u, rfl, r1.c.sub _ _ h2, hc, hn, by rw [zip_look nd h3 hf]; exact hu, At.ret r1 a ru⟩
      · exact a.elim
    · exact a.elim
  · exact a.elim
/-- a call from which no exception may come -/
def callN (d : DF) (xs : List SV) : DE := fun e => match callP d xs e with
  | .exc _ _ _ => .bad
  | o => o
theorem callN_ok {F H : Hp} {cad : List Addr} {e : StE} {σ : L2.St} {Q : VK} {xs : List SV} {vs : List V} (r : Rel P F cad e σ H) (s : RepSs P F cad xs vs) (a : At P (RepS P) W (callN d xs) F cad e σ H Q) :
    ∃ F cad cs ys, RelC P F cad cs H ∧ RepSs P F cad ys vs ∧ SatF P F cad H Q (fun _ _ _ => False) (d ys cs) := by
  refine callP_ok (W := fun _ _ _ _ => False) (σ := σ) r s ?_
  unfold At callN at a
  unfold At
  cases q : callP d xs e with
  | ok x e' => rw [q] at a; exact a
  | exc c fs e' => rw [q] at a; exact a.elim
  | bad => rw [q] at a; exact a.elim
/-- a property -/
def dProp (c : Nat) (d : DF) (da : DE) : DE := bindE da fun x => match x with
  | .pv (.ins c' ps) => if c' = c then callN d [x] else badE
  | _ => badE
theorem sn_prop {pa : Addr} (ha : Sn X P W e da) (hT : P.T c = some ci) (hc : Cls X.K ci.C) (hp : PropOf X.K ci.C f pa fa) (T : FnD X.prog X.w X.K X.mg X.base P k g fa fd ps d) (hr : Room (k + 1) X.A) (hg : g = true → X.A.guards = some []) (hbd : Binds X.K fd ps []) (hl : ps.length = 1)
    (hb : attributeBase e f X.env (eval e X.env) = eval e X.env := by rfl) : Sn X P W (.Attribute e f pos) (dProp c d da) := by
  refine ⟨fun pins s σ H Q I h => ?_⟩
  obtain ⟨F, cad, st, r, h⟩ := h
  refine attr_of hb (thn (ha.run pins s σ H _ I (At.rd r (At.bind (R := RepS P) h))) fun u s1 ⟨x, H1, I1, rx, F1, cad1, sx, e1, b1, r1, s1', a1⟩ => ?_)
  dsimp only at a1
  split at a1
  · rename_i c' qs
    split at a1
    · rename_i hcc
      subst hcc
      have s1c := s1'
      obtain ⟨a, ci', dx, vs, rfl, h1, h2, h3, h4⟩ := s1c
      rw [hT] at h1
      cases h1
      cases (show u = Value.ref a from rx)
      obtain ⟨F2, cad2, cs2, ys, rc, rs, hsat⟩ := callN_ok (vs := [.ref a]) r1 (.cons s1' .nil) a1
      obtain ⟨mA, O, _⟩ := ins_get I1.hok (r1.c.sub _ _ h2)
      obtain ⟨od, J, _⟩ := O.look
      obtain ⟨rest, hrec⟩ := hp.rec_
      have I2 := I1.tok (s1.toks + 1)
      have hcl : (PySem.W.clsIn X.K ci.C).isSome = true := by
        obtain ⟨cd, hcd, _⟩ := PySem.W.any_some hc.hd
        rw [hcd] <;> rfl
      refine PySem.W.get_bind I1.kIn J (PySem.W.plainGet_of (hc.get f)).1 (PySem.W.findObj_data hcl hp.at_ hp.get hp.tak) (PySem.W.plainGet_of (hc.get f)).2 (wpAny_call (PySem.W.prop_get (s := { s1 with toks := s1.toks + 1 }) I1.kIn hrec ?_))
      refine codeAny_mono (T.run X.A.in1 X.stack { s1 with toks := s1.toks + 1 } H1 ⟨[.ref a], []⟩ [.ref a] [.ref a] Q (fun _ _ _ => False) hr.in1 hg I2.env0.in1 (by have := hbd { s1 with toks := s1.toks + 1 } [.ref a] I2.kIn (by simp [hl]); simpa using this) (.cons rfl .nil) (by simp [hl]) ⟨F2, cad2, cs2, ys, rc, rs, hsat⟩) fun oo s' q => ?_
      rcases oo with er | fl
      · obtain ⟨_, _, _, _, _, _, _, _, _, _, _, _, z⟩ := q
        exact z.elim
      · cases fl <;> first | exact q.elim | skip
        rename_i w'
        obtain ⟨v, H', I3, rv, q3⟩ := I2.after q
        exact wpAny_of_eq (PySem.W.handedOut_of (handed_of rv)) ⟨v, H', I3, rv, q3⟩
    · exact a1.elim
  · exact a1.elim
/-! ### methods -/
/-- o.m(..) of an instance of the c-th class -/
def dMeth (c n : Nat) (od : List SV → DE) (sds : List SV) (da : DE) (das : StE → Out (List SV)) : DE := bindE da fun x => match x with
  | .pv (.ins c' ps) => if c' = c then bindE das fun xs => if xs.length = n then od (x :: (xs ++ sds)) else badE else badE
  | _ => badE
variable {sds : List SV} {dvs : List V} {ds : List Value} {oc : List SV → DE}
theorem sn_meth {pl : Sem Bool} (ho : Sn X P W o da) (hT : P.T c = some ci) (hc : Cls X.K ci.C) (hm : Meth X.K ci.C m fa) (hmf : m ∉ ci.fs) (T : FnD X.prog X.w X.K X.mg X.base P k g fa fd ps d) (hr : Room k X.A) (hg : g = true → X.A.guards = some []) (tk : Takes X W) (hbd : Binds X.K fd ps ds) (hd : Vals dvs ds) (hs : RepD P sds dvs)
    (hn : (e :: es).length + dvs.length + 1 = ps.length) (hcd : CallD P W d oc) (ha : SnA X P W (e :: es) das)
    (hst : starEach (e :: es) X.env = (false, eval e X.env) :: starEach es X.env := by rfl) (hpl : (backTo pos (starEach es X.env)).any (·.1) = false := by rfl)
    (ht : eval (.Call (.Attribute o m apos) (e :: es) [] pos) X.env = (do
      let ov ← eval o X.env
      standAt apos.atName
      let (f, first) ← holding [ov] (getMethod ov m pl)
      callWith pos f first (backTo pos (starEach (e :: es) X.env)) (backToKw pos (keywordEach [] X.env))) := by rfl) :
    Sn X P W (.Call (.Attribute o m apos) (e :: es) [] pos) (dMeth c (e :: es).length oc sds da das) := by
  refine ⟨fun pins s σ H Q I h => ?_⟩
  obtain ⟨F, cad, st, r, h⟩ := h
  refine PySem.W.methodCall_KW (pl := pl) (thn (ho.run pins s σ H _ I (At.rd r (At.bind (R := RepS P) h))) fun u s1 ⟨x, H1, I1, rx, F1, cad1, sx, e1, b1, r1, s1', a1⟩ => ?_) ht
  dsimp only at a1
  split at a1
  · rename_i c' qs
    split at a1
    · rename_i hcc
      subst hcc
      have s1c := s1'
      obtain ⟨a, ci', dx, vs, rfl, h1, h2, h3, h4⟩ := s1c
      rw [hT] at h1
      cases h1
      cases (show u = Value.ref a from rx)
      refine getmeth_ok I1 (r1.c.sub _ _ h2) hc hm (zip_look_none hmf) ?_
      refine PySem.W.callWith_K (first := [.ref a]) (h₀ := X.base) I.ok.mod.kin hm.kp (thn (ha.run pos pins s1 σ H1 _ I1 (At.rd r1 (At.bind (R := RepSs P) a1))) fun us s2 ⟨ws, H2, I2, rw', F2, cad2, xs, e2, b2, r2, s2', a2⟩ => ⟨I2.kIn, ?_⟩) hst hpl
      dsimp only at a2
      split at a2
      · rename_i hx
        obtain ⟨F3, cad3, cs3, ys, rc, rs, hsat⟩ := hcd _ _ _ _ _ _ _ (.ref a :: (ws ++ dvs)) r2 (.cons (s1'.le b2.le b2.pre) (s2'.append (hs F2 cad2))) a2
        have hl : (V.ref a :: (ws ++ dvs)).length = ps.length := by
          rw [List.length_cons, List.length_append, ← s2'.length, hx, hn]
        have rr : Vals (V.ref a :: (ws ++ dvs)) (Value.ref a :: (us ++ ds)) := .cons rfl (rw'.append hd)
        exact T.call hr hg tk I2 (hbd s2 (.ref a :: us) I2.kIn (by rw [← hl, rr.length]; rfl)) rr hl rc rs hsat
      · exact a2.elim
    · exact a1.elim
  · exact a1.elim
/-- o.m() -/
def dMeth0 (c : Nat) (od : List SV → DE) (sds : List SV) (da : DE) : DE := bindE da fun x => match x with
  | .pv (.ins c' ps) => if c' = c then od (x :: sds) else badE
  | _ => badE
theorem sn_meth0 {pl : Sem Bool} (ho : Sn X P W o da) (hT : P.T c = some ci) (hc : Cls X.K ci.C) (hm : Meth X.K ci.C m fa) (hmf : m ∉ ci.fs) (T : FnD X.prog X.w X.K X.mg X.base P k g fa fd ps d) (hr : Room k X.A) (hg : g = true → X.A.guards = some []) (tk : Takes X W) (hbd : Binds X.K fd ps ds) (hd : Vals dvs ds) (hs : RepD P sds dvs)
    (hn : dvs.length + 1 = ps.length) (hcd : CallD P W d oc)
    (ht : eval (.Call (.Attribute o m apos) [] [] pos) X.env = (do
      let ov ← eval o X.env
      standAt apos.atName
      let (f, first) ← holding [ov] (getMethod ov m pl)
      callWith pos f first (backTo pos (starEach [] X.env)) (backToKw pos (keywordEach [] X.env))) := by rfl) :
    Sn X P W (.Call (.Attribute o m apos) [] [] pos) (dMeth0 c oc sds da) := by
  refine ⟨fun pins s σ H Q I h => ?_⟩
  obtain ⟨F, cad, st, r, h⟩ := h
  refine PySem.W.methodCall_KW (pl := pl) (thn (ho.run pins s σ H _ I (At.rd r (At.bind (R := RepS P) h))) fun u s1 ⟨x, H1, I1, rx, F1, cad1, sx, e1, b1, r1, s1', a1⟩ => ?_) ht
  dsimp only at a1
  split at a1
  · rename_i c' qs
    split at a1
    · rename_i hcc
      subst hcc
      have s1c := s1'
      obtain ⟨a, ci', dx, vs, rfl, h1, h2, h3, h4⟩ := s1c
      rw [hT] at h1
      cases h1
      cases (show u = Value.ref a from rx)
      refine getmeth_ok I1 (r1.c.sub _ _ h2) hc hm (zip_look_none hmf) (PySem.W.callWith_K0 (first := [.ref a]) I1.kIn hm.kp ?_)
      obtain ⟨F3, cad3, cs3, ys, rc, rs, hsat⟩ := hcd _ _ _ _ _ _ _ (.ref a :: dvs) r1 (.cons s1' (hs F1 cad1)) a1
      have hl : (V.ref a :: dvs).length = ps.length := by rw [List.length_cons, hn]
      have rr : Vals (V.ref a :: dvs) (Value.ref a :: ds) := .cons rfl hd
      exact T.call hr hg tk I1 (hbd s1 [.ref a] I1.kIn (by rw [← hl, rr.length]; rfl)) rr hl rc rs hsat
    · exact a1.elim
  · exact a1.elim
/-! ### instances made -/
/-- C(..): the fields that its __init__ has laid, all n of them -/
def mkIns (c n : Nat) (init : DF) (xs : List SV) : DE := fun e => match pvs xs with
  | some _ => match init (.cell 0 :: xs) [some (.o c [])] with
    | .ok (.pv .non) e' => match e'.cs[0]? with
      | some (some (CC.o c' ps)) => if c' = c ∧ ps.length = n then .ok (.pv (.ins c ps)) e else .bad
      | _ => .bad
    | .exc c' fs _ => .exc c' fs e
    | _ => .bad
  | none => .bad
theorem mkIns_ok {F H : Hp} {cad : List Addr} {e : StE} {σ : L2.St} {Q : VK} {xs : List SV} {vs : List V} (hT : P.T c = some ci) (hn : ci.fs.length = n) (r : Rel P F cad e σ H) (s : RepSs P F cad xs vs) (a : At P (RepS P) W (mkIns c n d xs) F cad e σ H Q) {x dx : Addr} (hx : H x = none) (hdx : H dx = none) (ne : dx ≠ x) :
    ∃ F cad cs ys, RelC P F cad cs (upd (upd H dx (.own x)) x (.ins ci.C dx [])) ∧ RepSs P F cad ys (.ref x :: vs) ∧ SatF P F cad (upd (upd H dx (.own x)) x (.ins ci.C dx [])) (fun v H2 => v = .non ∧ Q (.ref x) H2) (fun cls dx H' => W cls dx σ H') (d ys cs) := by
  unfold At mkIns at a
  split at a
  · rename_i pl hpl
    have hx2 : (upd H dx (.own x)) x = none := by rw [upd_ne (Ne.symm ne)]; exact hx
    have le1 : Le H (upd (upd H dx (.own x)) x (.ins ci.C dx [])) := (keep_upd hdx).trans (keep_upd hx2)
    have fx : F x = none := by
      cases q : F x with
      | none => rfl
      | some o =>
        have := r.c.sub _ _ q
        rw [hx] at this
        cases this
    have s0 : RepSs P F [x] xs vs := (pvs_nocad s hpl).le (Le.refl F) (List.nil_prefix)
    refine ⟨F, [x], [some (.o c [])], .cell 0 :: xs, ⟨r.c.sub.trans le1, by simp, rfl, fun b hb => ?_, fun i cc hi => ?_⟩, .cons ⟨x, rfl, rfl⟩ s0, ?_⟩
    · rw [List.mem_singleton.mp hb, upd_same]
      intro z; cases z
    · cases i with
      | zero =>
        simp at hi
        subst hi
        exact ⟨x, rfl, fx, ci, dx, [], hT, by rw [upd_same]; simp, rfl, Nat.zero_le _, rfl⟩
      | succ i => simp at hi
    · -- behind __init__
      have wide : ∀ {F' H' : Hp} {cad' : List Addr}, Ext F [x] (upd (upd H dx (.own x)) x (.ins ci.C dx [])) F' cad' H' → (∀ b o, H b = some o → H' b = some o) ∧ (∀ b o, F' b = some o → F b = some o ∨ H b = none) := fun {F' H' cad'} b => by
        refine ⟨fun y o hy => b.keep y o (le1 y o hy) (by simp; exact fun z => by subst z; rw [hx] at hy; cases hy), fun y o hy => ?_⟩
        rcases b.fz y o hy with z | z | z
        · exact .inl z
        · refine .inr ?_
          cases q : H y with
          | none => rfl
          | some u => rw [le1 y u q] at z; cases z
        · rw [List.mem_singleton.mp z]; exact .inr hx
      have relw : ∀ {F' H' : Hp} {cad' : List Addr} {F2 : Hp}, Ext F [x] (upd (upd H dx (.own x)) x (.ins ci.C dx [])) F' cad' H' → Le F F2 → Le F2 H' → (∀ b o, F2 b = some o → F b = some o ∨ H b = none) → Rel P F2 cad e σ H' ∧ Ext F cad H F2 cad H' := fun {F' H' cad' F2} b l2 s2 z2 => by
        obtain ⟨kp, _⟩ := wide b
        refine ⟨⟨⟨s2, r.c.nd, r.c.len, fun y hy => ?_, fun i cc hi => ?_⟩, r.sl, fun i y hy => ?_⟩, ⟨l2, List.prefix_refl _, fun y hy hn => absurd hy hn, fun y o hy _ => kp y o hy, fun y o hy => (z2 y o hy).imp id .inl⟩⟩
        · cases q : H y with
          | none => exact absurd q (r.c.at_ y hy)
          | some o => rw [kp y o q]; intro z; cases z
        · obtain ⟨y, h1, h2, h3⟩ := r.c.cell i cc hi
          refine ⟨y, h1, ?_, h3.le l2 (List.prefix_refl _) (kp y)⟩
          obtain ⟨u, hu⟩ := h3.there
          cases q : F2 y with
          | none => rfl
          | some o =>
            rcases z2 y o q with z | z
            · rw [h2] at z; cases z
            · rw [hu] at z; cases z
        · obtain ⟨v, h1, h2⟩ := r.slot i y hy
          exact ⟨v, h1, h2.le l2 (List.prefix_refl _)⟩
      split at a
      · rename_i e' q
        rw [q]
        split at a
        · rename_i c' qs hcs
          split at a
          · rename_i hcc
            obtain ⟨rfl, hlen⟩ := hcc
            rintro v H' ⟨F', cad', b, rc', rv⟩
            obtain ⟨y, h1, h2, ci', dx', ws, h3, h4, h5, h6, h7⟩ := rc'.cell 0 _ hcs
            rw [hT] at h3
            cases h3
            have hy : y = x := by
              obtain ⟨t, ht⟩ := b.pre
              rw [← ht] at h1
              simp at h1
              exact h1.symm
            subst hy
            refine ⟨rv, ?_⟩
            obtain ⟨kp, fz⟩ := wide b
            have l2 : Le F' (upd F' y (.ins ci.C dx' (ci.fs.zip ws))) := fun b' u hb' => by
              rw [upd_ne (fun z => by subst z; rw [h2] at hb'; cases hb')]
              exact hb'
            have tk : ci.fs.take qs.length = ci.fs := List.take_of_length_le (by rw [hn, hlen]; exact Nat.le_refl _)
            rw [tk] at h4
            obtain ⟨R1, R2⟩ := relw (F2 := upd F' y (.ins ci.C dx' (ci.fs.zip ws))) b (b.le.trans l2) (fun b' u hb' => by
              by_cases z : b' = y
              · subst z; rw [upd_same] at hb'; cases hb'; exact h4
              · rw [upd_ne z] at hb'; exact rc'.sub _ _ hb') (fun b' u hb' => by
              by_cases z : b' = y
              · subst z; exact .inr hx
              · rw [upd_ne z] at hb'; exact fz _ _ hb')
            exact a (.ref y) H' ⟨_, cad, R2, R1, y, ci, dx', ws, rfl, hT, upd_same, by rw [hn, ← hlen, h5], Reps.le l2 h7⟩
          · exact a.elim
        · exact a.elim
      · rename_i c' fs e' q
        rw [q]
        rintro cls dy H' ⟨F', cad', b, rc', rv⟩
        obtain ⟨_, fz⟩ := wide b
        obtain ⟨R1, R2⟩ := relw (F2 := F') b b.le rc'.sub fz
        exact a cls dy H' ⟨F', cad, R2, R1, rv⟩
      · exact a.elim
  · exact a.elim
/-- the maker runs -/
theorem run_mk (T : FnD X.prog X.w X.K X.mg X.base P k g fa fd ps d) (hT : P.T c = some ci) (hnf : ci.fs.length = n) (M : Mk X.K ci.C fa) (hr : Room (k + 1) X.A) (hg : g = true → X.A.guards = some []) (tk : Takes X W) {pins : List (Addr × Obj)} {σ : L2.St} {H : Hp} {s : Shared} {us : List Value} {vs : List V} {args : List Value} {kw : List (Str × Value)} {Q : VK}
    (I : Inv X pins σ H s) (hb : ∀ (s : Shared) (self : Addr), X.K.In s.heap → BindsTo s fd ⟨.ref self :: args, kw⟩ (ps.zip (.ref self :: us))) (r : Vals vs us) (hl : vs.length + 1 = ps.length) {F : Hp} {cad : List Addr} {e : StE} {xs : List SV} (rr : Rel P F cad e σ H) (rs : RepSs P F cad xs vs) (a : At P (RepS P) W (mkIns c n d xs) F cad e σ H Q) :
    wpAny (model X.prog X.w) X.A (call (.ref ci.C) args kw) (EP X pins σ Q) X.xe s := by
  have I2 := Inv.made (C := ci.C) I
  obtain ⟨F2, cad2, cs2, ys, rc, rs2, hsat⟩ := mkIns_ok (x := s.heap.objs.size + 1) (dx := s.heap.objs.size) hT hnf rr rs a (I.hok.fresh (Nat.le_succ _)) (I.hok.fresh (Nat.le_refl _)) (Nat.ne_of_lt (Nat.lt_succ_self _))
  have r2 : Vals (V.ref (s.heap.objs.size + 1) :: vs) (Value.ref (s.heap.objs.size + 1) :: us) := .cons rfl r
  refine wpAny_call (make_map (f := fa) I.kIn M.makes M.init (beq_iff_eq.mp M.fn) (codeAny_mono (T.run _ X.stack _ _ ⟨Value.ref (s.heap.objs.size + 1) :: args, kw⟩ _ _ _ (fun cls dx H' => W cls dx σ H') (hr.make ci.C args kw) hg (I2.env0.make ci.C args kw) (hb _ _ I2.kIn) r2 (by simpa using hl) ⟨F2, cad2, cs2, ys, rc, rs2, hsat⟩) fun oo s' q => ?_))
  rcases oo with er | fl
  · exact tk er s' (XE.of_call I2 (fun _ _ _ z => z) q)
  · cases fl <;> first | exact q.elim | skip
    rename_i u
    obtain ⟨v, H', I3, rv, ev, q3⟩ := I2.after q
    subst ev
    exact ⟨rv, .ref _, H', I3, rfl, q3⟩
theorem sn_make {x : Str} (T : FnD X.prog X.w X.K X.mg X.base P k g fa fd ps d) (hT : P.T c = some ci) (hnf : ci.fs.length = n) (M : Mk X.K ci.C fa) (hr : Room (k + 1) X.A) (hg : g = true → X.A.guards = some []) (tk : Takes X W) (hG : Gl X x) (hm : X.mg x = some (.ref ci.C)) (hb : Binds X.K fd ps ds) (hd : Vals dvs ds) (hs : RepD P sds dvs)
    (hn : (e :: es).length + dvs.length + 1 = ps.length) (ha : SnA X P W (e :: es) das) (hdb : (x == ("__debug__" : Str)) = false := by decide) (he : starEach (e :: es) X.env = (false, eval e X.env) :: starEach es X.env := by rfl)
    (hpl : (backTo pos (starEach es X.env)).any (·.1) = false := by rfl) : Sn X P W (.Call (.Name x p) (e :: es) [] pos) (bindE das fun xs => if xs.length = (e :: es).length then mkIns c n d (xs ++ sds) else badE) := by
  refine ⟨fun pins s σ H Q I h => ?_⟩
  refine wpAny_Call_Name_kw (ld_glob I hG hm ?_ hdb)
  obtain ⟨F, cad, st, r, h⟩ := h
  refine PySem.W.callWith_K (h₀ := X.base) I.ok.mod.kin M.kp (thn (ha.run pos pins s σ H _ I (At.rd r (At.bind (R := RepSs P) h))) fun us s1 ⟨vs, H1, I1, rv, F1, cad1, xs, e1, b1, r1, s1', a1⟩ => ⟨I1.kIn, ?_⟩) he hpl
  dsimp only at a1
  split at a1
  · rename_i hx
    have hl : (vs ++ dvs).length + 1 = ps.length := by rw [List.length_append, ← s1'.length, hx, ← hn]
    have rr := rv.append hd
    refine run_mk T hT hnf M hr hg tk I1 (fun s' self hk => ?_) rr hl r1 (s1'.append (hs F1 cad1)) a1
    exact hb s' (.ref self :: us) hk (by rw [← hl, rr.length]; simp)
  · exact a1.elim
/-! ### a field stored while the instance is made -/
/-- slot i holds it; j: which field, the next one -/
def sFld (i c j : Nat) (d : DE) : DS := thenS d fun x e => match x, e.sl[i]? with
  | .pv p, some (some (.cell k)) => match e.cs[k]? with
    | some (some (CC.o c' ps)) => if c' = c ∧ ps.length = j then .ok .nx { e with cs := e.cs.set k (some (.o c (ps ++ [p]))) } else .bad
    | _ => .bad
  | _, _ => .bad
end
theorem putF_new {f : Str} {v : V} : ∀ {fs : List (Str × V)}, f ∉ fs.map (·.1) → putF f v fs = fs ++ [(f, v)]
  | [], _ => rfl
  | (g, x) :: r, h => by
    have h1 : g ≠ f := fun z => h (by simp [z])
    have h2 : f ∉ r.map (·.1) := fun z => h (by simp [z])
    show (if g = f then (g, v) :: r else (g, x) :: putF f v r) = _
    rw [if_neg h1, putF_new h2]
    rfl
/-- one of the things that change is written -/
theorem RelC.put {P : Pr} {F H : Hp} {cad : List Addr} {cs : Cs} (r : RelC P F cad cs H) {k : Nat} {c0 cc : CC} {a : Addr} (hk : cs[k]? = some (some c0)) (ha : cad[k]? = some a) (hf : F a = none) {o : HO} (h : CellAt P F cad (upd H a o) a cc) : RelC P F cad (cs.set k (some cc)) (upd H a o) := by
  have hlt : k < cs.length := (List.getElem?_eq_some_iff.mp hk).1
  refine ⟨fun b u hb => ?_, r.nd, by simp [r.len], fun b hb => ?_, fun i c' hi => ?_⟩
  · rw [upd_ne (fun z => by subst z; rw [hf] at hb; cases hb)]
    exact r.sub b u hb
  · by_cases z : b = a
    · subst z; rw [upd_same]; intro z; cases z
    · rw [upd_ne z]; exact r.at_ b hb
  · by_cases q : k = i
    · subst q
      rw [List.getElem?_set_self hlt] at hi
      cases hi
      exact ⟨a, ha, hf, h⟩
    · rw [List.getElem?_set_ne q] at hi
      obtain ⟨b, h1, h2, h3⟩ := r.cell i c' hi
      have ne : b ≠ a := fun z => by
        subst z
        exact q (nd_ix r.nd ha h1)
      exact ⟨b, h1, h2, h3.le (Le.refl F) (List.prefix_refl _) fun u hu => by rw [upd_ne ne]; exact hu⟩
theorem Ext.put {F H : Hp} {cad : List Addr} {k : Nat} {a : Addr} {o : HO} (ha : cad[k]? = some a) : Ext F cad H F cad (upd H a o) :=
  ⟨Le.refl F, List.prefix_refl _, fun b hb hn => absurd hb hn, fun b u hb hn => by rw [upd_ne (fun z => hn (by rw [z]; exact List.mem_of_getElem? ha))]; exact hb, fun _ _ h => .inl h⟩
section
variable {X : Cx} {P : Pr} {W : WX} {value : Expr} {f x : Str} {pos pos' xp : Pos} {dv : DE} {i c j : Nat} {ci : CI}
theorem sns_fld (hN : X.N[i]? = some x) (hv : Vis X.env.scope x) (he : Sn X P W value dv) (hT : P.T c = some ci) (hc : Cls X.K ci.C) (hn : NoAttr X.K ci.C f) (hlen : ci.fs.length < 1000) (nd : ci.fs.Nodup) (hf : ci.fs[j]? = some f)
    (hs : swapsWith value (some (.Attribute (.Name x xp) f pos')) pos.line X.env = pure false := by rfl) (hd : (x == ("__debug__" : Str)) = false := by decide) (hcd : (x == ("__classdict__" : Str)) = false := by decide) :
    SnS X P W (.Assign [.Attribute (.Name x xp) f pos'] value pos) (sFld i c j dv) := by
  refine PS.imp (ps_fld (pe_var (i := i) hN hv hd hcd) he hs) fun D σ H h => ?_
  obtain ⟨F, cad, st, r, h⟩ := h
  refine At.rd r ((AtS.bind (R := RepS P) h).mono fun v H1 ⟨F1, cad1, y, e1, b, r1, s1, a1⟩ => ?_)
  unfold AtS at a1
  dsimp only at a1
  split at a1
  · rename_i p k hsl
    split at a1
    · rename_i c' ps hcs
      split at a1
      · rename_i hcc
        obtain ⟨rfl, hj⟩ := hcc
        obtain ⟨w, h1, a, h2, rfl⟩ := r1.slot i _ hsl
        obtain ⟨b', h3, h4, ci', dx, vs, h5, h6, h7, h8, h9⟩ := r1.c.cell k _ hcs
        rw [h2] at h3
        cases h3
        rw [hT] at h5
        cases h5
        have hjl : j < ci.fs.length := (List.getElem?_eq_some_iff.mp hf).1
        have names : ((ci.fs.take ps.length).zip vs).map (·.1) = ci.fs.take ps.length := by
          rw [← List.unzip_fst, List.unzip_zip_left]
          rw [List.length_take, Nat.min_eq_left h8, h7]
          exact Nat.le_refl _
        have fresh : f ∉ ((ci.fs.take ps.length).zip vs).map (·.1) := by
          rw [names]
          intro z
          obtain ⟨i1, hi1, e1⟩ := List.getElem_of_mem z
          rw [List.getElem_take] at e1
          rw [List.length_take] at hi1
          have := nd_ix nd (List.getElem?_eq_some_iff.mpr ⟨by omega, e1⟩) hf
          omega
        have newfs : putF f v ((ci.fs.take ps.length).zip vs) = (ci.fs.take (ps ++ [p]).length).zip (vs ++ [v]) := by
          rw [putF_new fresh, List.length_append, List.length_singleton, List.take_succ, hj, hf, List.zip_append]
          · rfl
          · rw [List.length_take, ← hj, Nat.min_eq_left h8, h7]
        refine ⟨.ref a, h1, a, ci.C, dx, _, rfl, h6, hc, hn, ?_, ?_⟩
        · have := congrArg List.length names
          rw [List.length_map] at this
          rw [this, List.length_take]
          omega
        · rw [newfs]
          refine a1 σ _ ⟨F1, cad1, Ext.put h2, ⟨r1.c.put hcs h2 h4 ?_, r1.sl, r1.slot⟩⟩
          exact ⟨ci, dx, vs ++ [v], hT, upd_same, by simp [h7], by rw [List.length_append, List.length_singleton]; omega, h9.append ⟨v, [], rfl, s1, rfl⟩⟩
      · exact a1.elim
    · exact a1.elim
  · exact a1.elim
end
end Sh
namespace Sh
open PySem PySem.Spec PyProof.Rows L2
/-! # Built-in calls, subscripts -/
section
variable {X : Cx} {P : Pr} {W : WX} {e : Expr} {es : List Expr} {da db : DE} {das : StE → Out (List SV)} {pos p : Pos} {x : Str}
/-- what o gives is what the rule r wants -/
def CallI (P : Pr) (W : WX) (r : List V → Hp → VK → Prop) (o : List SV → DE) : Prop := ∀ (F : Hp) (cad : List Addr) (e : StE) (σ : L2.St) (H : Hp) (xs : List SV) (vs : List V) (Q : VK), Rel P F cad e σ H → RepSs P F cad xs vs → At P (RepS P) W (o xs) F cad e σ H Q → r vs H Q
theorem tcb_read {r : List V → Hp → VK → Prop} {o : List SV → DE} (i : CallI P W r o) : ∀ σ H Q, Rd P (RepS P) W (bindE das o) σ H Q → tCB r (Rd P (RepSs P) W das) σ H Q := fun σ H Q h => by
  obtain ⟨F, cad, st, r, h⟩ := h
  exact At.rd r ((At.bind (R := RepSs P) h).mono fun vs H1 ⟨F1, cad1, xs, e1, b, r1, s1, a⟩ => i F1 cad1 e1 σ H1 xs vs Q r1 s1 a)
theorem sn_b {id : String} {r : List V → Hp → VK → Prop} {o : List SV → DE} (hc : CallR X (.builtin id) r) (i : CallI P W r o) (hg : Gl X x) (hm : X.mg x = none) (hv : bootBuiltins x = some (.builtin id)) (ha : SnA X P W (e :: es) das) (hn : x ≠ "__name__" := by decide) (hdb : (x == ("__debug__" : Str)) = false := by decide)
    (he : starEach (e :: es) X.env = (false, eval e X.env) :: starEach es X.env := by rfl) (hpl : (backTo pos (starEach es X.env)).any (·.1) = false := by rfl) : Sn X P W (.Call (.Name x p) (e :: es) [] pos) (bindE das o) :=
  PE.imp (pe_callB hc hg hm hv ha hn hdb he hpl) (tcb_read i)
theorem sn_bT {T : String} {r : List V → Hp → VK → Prop} {o : List SV → DE} (hc : CallR X (.type T) r) (i : CallI P W r o) (hg : Gl X x) (hm : X.mg x = none) (hv : bootBuiltins x = some (.type T)) (ha : SnA X P W (e :: es) das) (hn : x ≠ "__name__" := by decide) (hdb : (x == ("__debug__" : Str)) = false := by decide)
    (he : starEach (e :: es) X.env = (false, eval e X.env) :: starEach es X.env := by rfl) (hpl : (backTo pos (starEach es X.env)).any (·.1) = false := by rfl) : Sn X P W (.Call (.Name x p) (e :: es) [] pos) (bindE das o) :=
  PE.imp (pe_callTy hc hg hm hv ha hn hdb he hpl) (tcb_read i)
theorem sn_bF {id : String} {r : List V → Hp → VK → Prop} {o : List SV → DE} (hc : CallR X (.builtin id) r) (i : CallI P W r o) (hg : Gl X x) (hm : X.mg x = some (.builtin id)) (ha : SnA X P W (e :: es) das) (hdb : (x == ("__debug__" : Str)) = false := by decide)
    (he : starEach (e :: es) X.env = (false, eval e X.env) :: starEach es X.env := by rfl) (hpl : (backTo pos (starEach es X.env)).any (·.1) = false := by rfl) : Sn X P W (.Call (.Name x p) (e :: es) [] pos) (bindE das o) :=
  PE.imp (pe_callBfun hc hg hm ha hdb he hpl) (tcb_read i)
theorem CallI.or {r r' : List V → Hp → VK → Prop} {o : List SV → DE} (i : CallI P W (fun xs H Q => r xs H Q ∨ r' xs H Q) o) : CallI P W (fun xs H Q => r xs H Q ∨ r' xs H Q) o := i
theorem reps1 {F : Hp} {cad : List Addr} {x : SV} {vs : List V} (h : RepSs P F cad [x] vs) : ∃ v, vs = [v] ∧ RepS P F cad x v := by
  cases h with
  | cons h t => cases t; exact ⟨_, rfl, h⟩
theorem reps2 {F : Hp} {cad : List Addr} {x y : SV} {vs : List V} (h : RepSs P F cad [x, y] vs) : ∃ v u, vs = [v, u] ∧ RepS P F cad x v ∧ RepS P F cad y u := by
  cases h with
  | cons h t =>
    cases t with
    | cons h' t => cases t; exact ⟨_, _, rfl, h, h'⟩
/-! ### abs, max, min, int, gcd, divmod -/
def oAbs : List SV → DE := fun xs => match xs with
  | [.pv (.int i)] => rI (if i < 0 then -i else i)
  | _ => badE
theorem ci_abs : CallI P W (fun xs H Q => ∃ i, xs = [.int i] ∧ Q (.int (if i < 0 then -i else i)) H) oAbs := by
  intro F cad e σ H xs vs Q r s a
  unfold oAbs at a
  split at a
  · obtain ⟨v, rfl, h⟩ := reps1 s
    cases h
    exact ⟨_, rfl, At.ret r a rfl⟩
  · exact a.elim
def oMax2 : List SV → DE := fun xs => match xs with
  | [.pv (.int i), .pv (.int j)] => rI (if j > i then j else i)
  | _ => badE
theorem ci_max2 : CallI P W (fun xs H Q => ∃ i j, xs = [.int i, .int j] ∧ Q (.int (if j > i then j else i)) H) oMax2 := by
  intro F cad e σ H xs vs Q r s a
  unfold oMax2 at a
  split at a
  · obtain ⟨v, u, rfl, h, h'⟩ := reps2 s
    cases h; cases h'
    exact ⟨_, _, rfl, At.ret r a rfl⟩
  · exact a.elim
def oMin2 : List SV → DE := fun xs => match xs with
  | [.pv (.int i), .pv (.int j)] => rI (if j < i then j else i)
  | _ => badE
theorem ci_min2 : CallI P W (fun xs H Q => ∃ i j, xs = [.int i, .int j] ∧ Q (.int (if j < i then j else i)) H) oMin2 := by
  intro F cad e σ H xs vs Q r s a
  unfold oMin2 at a
  split at a
  · obtain ⟨v, u, rfl, h, h'⟩ := reps2 s
    cases h; cases h'
    exact ⟨_, _, rfl, At.ret r a rfl⟩
  · exact a.elim
def oInt : List SV → DE := fun xs => match xs with
  | [.pv (.int i)] => rI i
  | [.pv (.bl b)] => rI (if b then 1 else 0)
  | _ => badE
theorem ci_int : CallI P W (fun xs H Q => (∃ i, xs = [.int i] ∧ Q (.int i) H) ∨ ∃ k, xs = [.bl k] ∧ Q (.int (if k then 1 else 0)) H) oInt := by
  intro F cad e σ H xs vs Q r s a
  unfold oInt at a
  split at a
  · obtain ⟨v, rfl, h⟩ := reps1 s
    cases h
    exact .inl ⟨_, rfl, At.ret r a rfl⟩
  · obtain ⟨v, rfl, h⟩ := reps1 s
    cases h
    exact .inr ⟨_, rfl, At.ret r a rfl⟩
  · exact a.elim
def oGcd : List SV → DE := fun xs => match xs with
  | [.pv (.int i), .pv (.int j)] => rI ((Nat.gcd i.natAbs j.natAbs : Nat) : Int)
  | _ => badE
theorem ci_gcd : CallI P W rGcd oGcd := by
  intro F cad e σ H xs vs Q r s a
  unfold oGcd at a
  split at a
  · obtain ⟨v, u, rfl, h, h'⟩ := reps2 s
    cases h; cases h'
    exact ⟨_, _, rfl, At.ret r a rfl⟩
  · exact a.elim
def oDivmod : List SV → DE := fun xs => match xs with
  | [.pv (.int i), .pv (.int j)] => if 0 < j ∧ j < 1073741824 then retE (.pv (.tup [.int (i / j), .int (i % j)])) else badE
  | _ => badE
theorem ci_divmod : CallI P W (fun xs H Q => ∃ i j, xs = [.int i, .int j] ∧ CDiv i j ∧ ∀ p, H p = none → Q (.ref p) (upd H p (.tup [.int (i / j), .int (i % j)]))) oDivmod := by
  intro F cad e σ H xs vs Q r s a
  unfold oDivmod at a
  split at a
  · split at a
    · rename_i hj
      obtain ⟨v, u, rfl, h, h'⟩ := reps2 s
      cases h; cases h'
      exact ⟨_, _, rfl, hj, fun p hp => At.retNew r a hp ⟨p, _, rfl, .inl (.inl upd_same), _, _, rfl, rfl, _, _, rfl, rfl, rfl⟩⟩
    · exact a.elim
  · exact a.elim
def oStr : List SV → DE := fun xs => match xs with
  | [.pv (.int i)] => if i.natAbs.log2 < 1920 then retE (.pv (.str (toString i))) else badE
  | _ => badE
theorem ci_str : CallI P W (fun xs H Q => ∃ i, xs = [.int i] ∧ i.natAbs.log2 < 1920 ∧ Q (.str (toString i)) H) oStr := by
  intro F cad e σ H xs vs Q r s a
  unfold oStr at a
  split at a
  · split at a
    · rename_i hj
      obtain ⟨v, rfl, h⟩ := reps1 s
      cases h
      exact ⟨_, rfl, hj, At.ret r a rfl⟩
    · exact a.elim
  · exact a.elim
/-! ### len -/
def lenOf (cs : Cs) : SV → Option Nat
  | .pv (.str z) => if z.length ≤ 16777216 then some z.length else none
  | .pv (.lst ps) => some ps.length
  | .pv (.fz ps) => some ps.length
  | .pv (.tup ps) => some ps.length
  | .cell k => match cs[k]? with
    | some (some (.l xs)) => some xs.length
    | _ => none
  | _ => none
def oLen : List SV → DE := fun xs e => match xs with
  | [x] => match lenOf e.cs x with
    | some n => .ok (.pv (.int n)) e
    | none => .bad
  | _ => .bad
theorem ci_len {K : PySem.W.Frag} (hK : K = P.K) : CallI P W (fun xs H Q => (∃ p ys, xs = [.ref p] ∧ (SqL K H p ys ∨ SqT K H p ys) ∧ Q (.int ys.length) H) ∨ ∃ z, xs = [.str z] ∧ z.length ≤ sizeLine ∧ Q (.int z.length) H) oLen := by
  intro F cad e σ H xs vs Q r s a
  unfold At oLen at a
  split at a
  · rename_i x
    obtain ⟨v, rfl, h⟩ := reps1 s
    split at a
    · rename_i n hn
      have fin : Q (.int n) H := a (.int n) H ⟨F, cad, Ext.refl _ _ _, r, rfl⟩
      unfold lenOf at hn
      split at hn
      · split at hn
        · rename_i hz
          cases hn; cases h
          exact .inr ⟨_, rfl, by rw [sizeLine_eq]; exact hz, fin⟩
        · cases hn
      · cases hn
        obtain ⟨b, ys, rfl, h1, h2⟩ := h
        exact .inl ⟨b, ys, rfl, .inl (.inl (.inl (r.c.sub _ _ h1))), by rw [← h2.length]; exact fin⟩
      · cases hn
        obtain ⟨b, ys, rfl, h1, h2⟩ := h
        subst hK
        exact .inl ⟨b, ys, rfl, .inl (SqL.le r.c.sub h1), by rw [← h2.length]; exact fin⟩
      · cases hn
        obtain ⟨b, ys, rfl, h1, h2⟩ := h
        subst hK
        exact .inl ⟨b, ys, rfl, .inr (SqT.le r.c.sub h1), by rw [← h2.length]; exact fin⟩
      · rename_i k
        split at hn
        · rename_i xs hk
          cases hn
          obtain ⟨b, h1, rfl⟩ := h
          obtain ⟨b', h2, h3, ys, h4, h5⟩ := r.c.cell k _ hk
          rw [h1] at h2
          cases h2
          exact .inl ⟨b, ys, rfl, .inl (.inl (.inl h4)), by rw [← h5.length]; exact fin⟩
        · cases hn
      · cases hn
    · exact a.elim
  · exact a.elim
/-! ### subscripts -/
def ixOf (cs : Cs) : SV → Int → Option SV
  | .pv (.lst ps), i => (atI ps i).map .pv
  | .pv (.fz ps), i => (atI ps i).map .pv
  | .pv (.tup ps), i => (atI ps i).map .pv
  | .pv (.str z), i => if z.length ≤ 16777216 then (atI z.cps.toList i).map fun c => .pv (.str ⟨#[c]⟩) else none
  | .cell k, i => match cs[k]? with
    | some (some (.l xs)) => atI xs i
    | _ => none
  | _, _ => none
def oIx : SV → SV → DE := fun x y e => match y with
  | .pv (.int i) => match ixOf e.cs x i with
    | some z => .ok z e
    | none => .bad
  | _ => .bad
theorem atI_rep {F : Hp} {ps : List PV} {vs : List V} {i : Int} {p : PV} (h : Reps P F ps vs) (e : atI ps i = some p) : ∃ v, atI vs i = some v ∧ Rep P F p v := by
  unfold atI at e ⊢
  rw [← h.length]
  cases q : ixN ps.length i with
  | none => rw [q] at e; cases e
  | some j =>
    rw [q] at e
    exact h.get e
theorem atI_repS {F : Hp} {cad : List Addr} {ps : List SV} {vs : List V} {i : Int} {p : SV} (h : RepSs P F cad ps vs) (e : atI ps i = some p) : ∃ v, atI vs i = some v ∧ RepS P F cad p v := by
  unfold atI at e ⊢
  rw [← h.length]
  cases q : ixN ps.length i with
  | none => rw [q] at e; cases e
  | some j =>
    rw [q] at e
    exact h.get e
theorem ix_read {K : PySem.W.Frag} (hK : K = P.K) {F H : Hp} {cad : List Addr} {e : StE} {σ : L2.St} {sx sy : SV} {x y : V} {Q : VK} (r : Rel P F cad e σ H) (h1 : RepS P F cad sx x) (h2 : RepS P F cad sy y) (a : At P (RepS P) W (oIx sx sy) F cad e σ H Q) : rIx K x y H Q := by
  unfold At oIx at a
  split at a
  · rename_i i
    cases h2
    split at a
    · rename_i z hz
      have fin : ∀ v, RepS P F cad z v → Q v H := fun v hv => a v H ⟨F, cad, Ext.refl _ _ _, r, hv⟩
      unfold ixOf at hz
      split at hz
      · obtain ⟨b, ys, rfl, h3, h4⟩ := h1
        cases q : atI _ i with
        | none => rw [q] at hz; cases hz
        | some p =>
          rw [q] at hz; cases hz
          obtain ⟨v, h5, h6⟩ := atI_rep h4 q
          exact .inl ⟨b, ys, i, v, rfl, rfl, .inl (.inl (r.c.sub _ _ h3)), h5, fin v h6⟩
      · obtain ⟨b, ys, rfl, h3, h4⟩ := h1
        cases q : atI _ i with
        | none => rw [q] at hz; cases hz
        | some p =>
          rw [q] at hz; cases hz
          obtain ⟨v, h5, h6⟩ := atI_rep h4 q
          subst hK
          exact .inl ⟨b, ys, i, v, rfl, rfl, SqL.le r.c.sub h3, h5, fin v h6⟩
      · obtain ⟨b, ys, rfl, h3, h4⟩ := h1
        cases q : atI _ i with
        | none => rw [q] at hz; cases hz
        | some p =>
          rw [q] at hz; cases hz
          obtain ⟨v, h5, h6⟩ := atI_rep h4 q
          subst hK
          exact .inr (.inl ⟨b, ys, i, v, rfl, rfl, SqT.le r.c.sub h3, h5, fin v h6⟩)
      · split at hz
        · rename_i hl
          cases h1
          cases q : atI _ i with
          | none => rw [q] at hz; cases hz
          | some p =>
            rw [q] at hz; cases hz
            exact .inr (.inr ⟨_, i, p, rfl, rfl, by rw [sizeLine_eq]; exact hl, q, fin _ rfl⟩)
        · cases hz
      · rename_i k
        split at hz
        · rename_i xs hk
          obtain ⟨b, h3, rfl⟩ := h1
          obtain ⟨b', h4, h5, ys, h6, h7⟩ := r.c.cell k _ hk
          rw [h3] at h4
          cases h4
          obtain ⟨v, h8, h9⟩ := atI_repS h7 hz
          exact .inl ⟨b, ys, i, v, rfl, rfl, .inl (.inl h6), h8, fin v h9⟩
        · cases hz
      · cases hz
    · exact a.elim
  · exact a.elim
theorem top_read {r : R2} {o : SV → SV → DE} (i : ∀ (F : Hp) (cad : List Addr) (e : StE) (σ : L2.St) (H : Hp) (sx sy : SV) (x y : V) (Q : VK), Rel P F cad e σ H → RepS P F cad sx x → RepS P F cad sy y → At P (RepS P) W (o sx sy) F cad e σ H Q → r x y H Q) :
    ∀ σ H Q, Rd P (RepS P) W (dBin o da db) σ H Q → tOp r (Rd P (RepS P) W da) (Rd P (RepS P) W db) σ H Q := fun σ H Q h => by
  obtain ⟨F, cad, st, r', h⟩ := h
  refine At.rd r' ((two h).mono fun v H1 ⟨F1, cad1, e1, r1, q⟩ => At.rd r1 (q.mono fun u H2 ⟨F2, cad2, e2, x, y, r2, s1, s2, a⟩ => ?_))
  exact i F2 cad2 e2 σ H2 x y v u Q r2 s1 s2 a
theorem sn_ix {a b : Expr} (hK : X.K = P.K) (ha : Sn X P W a da) (hb : Sn X P W b db) (hs : PlainIx b := by exact fun _ _ => rfl) : Sn X P W (.Subscript a b pos) (dBin oIx da db) :=
  PE.imp (pe_ix ix_seq ha hb hs) (top_read fun F cad e σ H sx sy x y Q r h1 h2 a => ix_read hK r h1 h2 a)
/-! ### slices -/
def RPart : RG (Option Int) (Option Int) := fun _ _ a b => a = b
def pNone : StE → Out (Option Int) := retE none
def pSome (d : DE) : StE → Out (Option Int) := bindE d fun x => match x with
  | .pv (.int i) => retE (some i)
  | _ => badE
def SnP (X : Cx) (P : Pr) (W : WX) (x : Option Expr) (d : StE → Out (Option Int)) : Prop := PO X x (Rd P RPart W d)
theorem PO.imp {x : Option Expr} {t t' : TO} (h : PO X x t) (i : ∀ σ H Q, t' σ H Q → t σ H Q) : PO X x t' := by
  obtain ⟨h⟩ := h
  exact ⟨fun pins s σ H Q I q => h pins s σ H Q I (i σ H Q q)⟩
theorem snp_none : SnP X P W none pNone := PO.imp po_none fun σ H Q h => Rd.ret h fun _ _ => rfl
theorem snp_some (h : Sn X P W e da) : SnP X P W (some e) (pSome da) := PO.imp (po_some h) fun σ H Q h => by
  obtain ⟨F, cad, st, r, h⟩ := h
  refine At.rd r ((At.bind (R := RepS P) h).mono fun v H1 ⟨F1, cad1, x, e1, b, r1, s1, a⟩ => ?_)
  dsimp only at a
  split at a
  · cases s1
    exact ⟨_, rfl, At.ret r1 a rfl⟩
  · exact a.elim
def cutP {α : Type} (xs : List α) (lo hi : Option Int) : List α := (xs.drop (HT.sIx xs.length 0 lo)).take (HT.sIx xs.length xs.length hi - HT.sIx xs.length 0 lo)
/-- a slice of a list: a new list; of a text -/
def oSl (x : SV) (lo hi : Option Int) : DE := fun e => match x with
  | .pv (.lst ps) => .ok (.pv (.lst (cutP ps lo hi))) e
  | .pv (.fz ps) => .ok (.pv (.lst (cutP ps lo hi))) e
  | .cell k => match e.cs[k]? with
    | some (some (.l xs)) => match pvs xs with
      | some ps => .ok (.pv (.lst (cutP ps lo hi))) e
      | none => .bad
    | _ => .bad
  | _ => .bad
theorem cut_rep {F : Hp} {ps : List PV} {vs : List V} (h : Reps P F ps vs) (lo hi : Option Int) : Reps P F (cutP ps lo hi) (cutV vs lo hi) := by
  unfold cutP cutV
  rw [← h.length]
  exact (h.drop _).take _
theorem sn_sl {lo hi : Option Expr} {dl dh : StE → Out (Option Int)} {p2 : Pos} (hK : X.K = P.K) (ha : Sn X P W e da) (hl : SnP X P W lo dl) (hh : SnP X P W hi dh) : Sn X P W (.Subscript e (.Slice lo hi none p2) pos) (bindE da fun x => bindE dl fun l => bindE dh fun h => oSl x l h) := by
  refine PE.imp (pe_slice sl_list ha hl hh) fun σ H Q h => ?_
  obtain ⟨F, cad, st, r, h⟩ := h
  refine At.rd r ((At.bind (R := RepS P) h).mono fun v H1 ⟨F1, cad1, x, e1, b1, r1, s1, a1⟩ => ?_)
  refine At.rd r1 ((At.bind (R := RPart) a1).mono fun l H2 ⟨F2, cad2, l', e2, b2, r2, s2, a2⟩ => ?_)
  cases s2
  refine At.rd r2 ((At.bind (R := RPart) a2).mono fun u H3 ⟨F3, cad3, u', e3, b3, r3, s3, a3⟩ => ?_)
  cases s3
  have s4 := (s1.le b2.le b2.pre).le b3.le b3.pre
  have fin : ∀ {ps : List PV} {vs : List V}, Reps P F3 ps vs → (∀ v H', Post P (RepS P) F3 cad3 σ H3 e3 (.pv (.lst (cutP ps l u))) v H' → Q v H') → ∀ p, H3 p = none → Q (.ref p) (upd H3 p (.lst (cutV vs l u))) := fun {ps vs} hr ha p hp =>
    At.retNew (x := SV.pv (.lst (cutP ps l u))) (W := W) r3 ha hp ⟨p, _, rfl, upd_same, (cut_rep hr l u).le (le_upd r3.c hp)⟩
  unfold At oSl at a3
  split at a3
  · obtain ⟨b, ys, rfl, h1, h2⟩ := s4
    exact ⟨b, ys, rfl, .inl (.inl (r3.c.sub _ _ h1)), fin h2 a3⟩
  · obtain ⟨b, ys, rfl, h1, h2⟩ := s4
    exact ⟨b, ys, rfl, by rw [hK]; exact SqL.le r3.c.sub h1, fin h2 a3⟩
  · rename_i k _ _
    dsimp only at a3
    split at a3
    · rename_i xs hk
      obtain ⟨b, h1, rfl⟩ := s4
      obtain ⟨b', h2, h3, ys, h4, h5⟩ := r3.c.cell k _ hk
      rw [h1] at h2
      cases h2
      split at a3
      · rename_i ps hps
        exact ⟨b, ys, rfl, .inl (.inl h4), fin (pvs_reps h5 hps) a3⟩
      · exact a3.elim
    · exact a3.elim
  · exact a3.elim
/-! ### all, any of truth values; tuple(..), list(..) -/
def bls : List PV → Option (List Bool)
  | [] => some []
  | .bl b :: r => (bls r).map (b :: ·)
  | _ :: _ => none
theorem bls_rep {F : Hp} : ∀ {ps : List PV} {bs : List Bool} {vs : List V}, bls ps = some bs → Reps P F ps vs → vs = bs.map V.bl
  | [], bs, vs, h, r => by cases h; cases r; rfl
  | p :: ps, bs, vs, h, r => by
    obtain ⟨v, t, rfl, h1, h2⟩ := r
    cases p <;> first | cases h | skip
    rename_i b
    unfold bls at h
    cases q : bls ps with
    | none => rw [q] at h; cases h
    | some cs =>
      rw [q] at h
      cases h
      cases h1
      rw [bls_rep q h2]
      rfl
def oAll : List SV → DE := fun xs => match xs with
  | [.pv (.lst ps)] => match bls ps with
    | some bs => rBl (bs.all id)
    | none => badE
  | _ => badE
theorem ci_all {K : PySem.W.Frag} : CallI P W (rAll K) oAll := by
  intro F cad e σ H xs vs Q r s a
  unfold oAll at a
  split at a
  · split at a
    · rename_i bs hb
      obtain ⟨v, rfl, b, ys, rfl, h1, h2⟩ := reps1 s
      exact ⟨b, bs, rfl, by rw [← bls_rep hb h2]; exact .inl (.inl (r.c.sub _ _ h1)), At.ret r a rfl⟩
    · exact a.elim
  · exact a.elim
def oAny : List SV → DE := fun xs => match xs with
  | [.pv (.lst ps)] => match bls ps with
    | some bs => rBl (bs.any id)
    | none => badE
  | _ => badE
theorem ci_any {K : PySem.W.Frag} : CallI P W (rAny K) oAny := by
  intro F cad e σ H xs vs Q r s a
  unfold oAny at a
  split at a
  · split at a
    · rename_i bs hb
      obtain ⟨v, rfl, b, ys, rfl, h1, h2⟩ := reps1 s
      exact ⟨b, bs, rfl, by rw [← bls_rep hb h2]; exact .inl (.inl (r.c.sub _ _ h1)), At.ret r a rfl⟩
    · exact a.elim
  · exact a.elim
/-- the plain values of a list, a tuple, a list that changes -/
def itemsOf (cs : Cs) : SV → Option (List PV)
  | .pv (.lst ps) => some ps
  | .pv (.fz ps) => some ps
  | .cell k => match cs[k]? with
    | some (some (.l xs)) => pvs xs
    | _ => none
  | _ => none
theorem items_rep {K : PySem.W.Frag} (hK : K = P.K) {F H : Hp} {cad : List Addr} {cs : Cs} (r : RelC P F cad cs H) {x : SV} {v : V} {ps : List PV} (h : RepS P F cad x v) (e : itemsOf cs x = some ps) : ∃ a vs, v = .ref a ∧ SqL K H a vs ∧ Reps P F ps vs := by
  unfold itemsOf at e
  split at e
  · cases e
    obtain ⟨b, ys, rfl, h1, h2⟩ := h
    exact ⟨b, ys, rfl, .inl (.inl (r.sub _ _ h1)), h2⟩
  · cases e
    obtain ⟨b, ys, rfl, h1, h2⟩ := h
    exact ⟨b, ys, rfl, by rw [hK]; exact SqL.le r.sub h1, h2⟩
  · rename_i k
    split at e
    · rename_i xs hk
      obtain ⟨b, h1, rfl⟩ := h
      obtain ⟨b', h2, h3, ys, h4, h5⟩ := r.cell k _ hk
      rw [h1] at h2
      cases h2
      exact ⟨b, ys, rfl, .inl (.inl h4), pvs_reps h5 e⟩
    · cases e
  · cases e
def oTuple : List SV → DE := fun xs e => match xs with
  | [.pv (.tup ps)] => .ok (.pv (.tup ps)) e
  | [x] => match itemsOf e.cs x with
    | some ps => .ok (.pv (.tup ps)) e
    | none => .bad
  | _ => .bad
theorem ci_tuple {K : PySem.W.Frag} (hK : K = P.K) : CallI P W (fun xs H Q => ∃ p ys, xs = [.ref p] ∧ ((SqL K H p ys ∧ ∀ l, H l = none → Q (.ref l) (upd H l (.tup ys))) ∨ (SqT K H p ys ∧ Q (.ref p) H))) oTuple := by
  intro F cad e σ H xs vs Q r s a
  unfold At oTuple at a
  split at a
  · obtain ⟨v, rfl, b, ys, rfl, h1, h2⟩ := reps1 s
    exact ⟨b, ys, rfl, .inr ⟨by rw [hK]; exact SqT.le r.c.sub h1, a (.ref b) H ⟨F, cad, Ext.refl _ _ _, r, b, ys, rfl, h1, h2⟩⟩⟩
  · obtain ⟨v, rfl, h⟩ := reps1 s
    split at a
    · rename_i ps hps
      obtain ⟨b, ys, rfl, h1, h2⟩ := items_rep hK r.c h hps
      exact ⟨b, ys, rfl, .inl ⟨h1, fun l hl => At.retNew (x := SV.pv (.tup ps)) (W := W) r a hl ⟨l, ys, rfl, .inl (.inl upd_same), h2.le (le_upd r.c hl)⟩⟩⟩
    · exact a.elim
  · exact a.elim
def oList : List SV → DE := fun xs e => match xs with
  | [.pv (.tup ps)] => .ok (.pv (.lst ps)) e
  | [x] => match itemsOf e.cs x with
    | some ps => .ok (.pv (.lst ps)) e
    | none => .bad
  | _ => .bad
theorem ci_list {K : PySem.W.Frag} (hK : K = P.K) : CallI P W (fun xs H Q => ∃ p ys, xs = [.ref p] ∧ (SqL K H p ys ∨ SqT K H p ys) ∧ ∀ l, H l = none → Q (.ref l) (upd H l (.lst ys))) oList := by
  intro F cad e σ H xs vs Q r s a
  unfold At oList at a
  split at a
  · obtain ⟨v, rfl, b, ys, rfl, h1, h2⟩ := reps1 s
    exact ⟨b, ys, rfl, .inr (by rw [hK]; exact SqT.le r.c.sub h1), fun l hl => At.retNew (x := SV.pv (.lst _)) (W := W) r a hl ⟨l, ys, rfl, upd_same, h2.le (le_upd r.c hl)⟩⟩
  · obtain ⟨v, rfl, h⟩ := reps1 s
    split at a
    · rename_i ps hps
      obtain ⟨b, ys, rfl, h1, h2⟩ := items_rep hK r.c h hps
      exact ⟨b, ys, rfl, .inl h1, fun l hl => At.retNew (x := SV.pv (.lst ps)) (W := W) r a hl ⟨l, ys, rfl, upd_same, h2.le (le_upd r.c hl)⟩⟩
    · exact a.elim
  · exact a.elim
/-! ### isinstance -/
/-- the class of a value -/
inductive TyP (Pp : Pr) : PV → Value → Prop
  | non : TyP Pp .non (.type "NoneType")
  | bl (b0 : Bool) : TyP Pp (.bl b0) (.type "bool")
  | int (i0 : Int) : TyP Pp (.int i0) (.type "int")
  | str (x0 : Str) : TyP Pp (.str x0) (.type "str")
  | tup (ps0 : List PV) : TyP Pp (.tup ps0) (.type "tuple")
  | lst (ps0 : List PV) : TyP Pp (.lst ps0) (.type "list")
  | fz (ps0 : List PV) : TyP Pp (.fz ps0) (.type "list")
  | ins (c0 : Nat) (ps0 : List PV) (ci0 : CI) (h0 : Pp.T c0 = some ci0) : TyP Pp (.ins c0 ps0) (.ref ci0.C)
/-- what isinstance asks of the own classes -/
structure ClsF (K : PySem.W.Frag) (C : Addr) : Prop where
  cls : Cls K C
  ca : PySem.W.findIn K (.ref C) "__class__" = some (some (.builtin "object.__class__"))
  cn : PySem.W.specialIn K (.builtin "object.__class__") "__get__" = some (some (.builtin "getset_descriptor.__get__"))
  ct : PySem.W.takesIn K (.builtin "object.__class__") = some true
  cm : PySem.W.mroIn K C (.type "object") = some true
theorem tyX_of {F H : Hp} (l : Le F H) (hT : ∀ c ci, P.T c = some ci → ClsF P.K ci.C) {pp : PV} {v : V} {t : Value} (h : Rep P F pp v) (ty : TyP P pp t) : TyX P.K H v t := by
  cases ty with
  | non => cases h; exact .base .non
  | bl b0 => cases h; exact .base (.bl b0)
  | int i0 => cases h; exact .base (.int i0)
  | str x0 => cases h; exact .base (.str x0)
  | tup ps0 =>
    obtain ⟨b, ys, rfl, (h1 | ⟨o, h1⟩) | ⟨o, its, n, h1, h2, _⟩, _⟩ := h
    · exact .base (.tup (l _ _ h1))
    · exact .fTuple (l _ _ h1)
    · exact .kTuple h1 h2
  | lst ps0 =>
    obtain ⟨b, ys, rfl, h1, _⟩ := h
    exact .base (.lst (l _ _ h1))
  | fz ps0 =>
    obtain ⟨b, ys, rfl, (h1 | ⟨o, h1⟩) | ⟨o, its, n, h1, h2, _⟩, _⟩ := h
    · exact .base (.lst (l _ _ h1))
    · exact .base (.frz (l _ _ h1))
    · exact .kList h1 h2
  | ins c0 ps0 ci0 h0 =>
    obtain ⟨b, ci', dx, ys, rfl, h1, h2, _⟩ := h
    rw [h0] at h1
    cases h1
    have f := hT c0 ci0 h0
    exact .base (.ins (l _ _ h2) f.cls f.ca f.cn f.ct f.cm)
/-- ans tells isinstance(.., u) -/
def IsiOk (P : Pr) (u : Value) (ans : PV → Option Bool) : Prop := ∀ p b, ans p = some b → ∃ t, TyP P p t ∧ PySem.W.kitOne P.K t u = some b
def IsiOkT (P : Pr) (us : List Value) (ans : PV → Option Bool) : Prop := ∀ p b, ans p = some b → ∃ t, TyP P p t ∧ PySem.W.kitAny P.K t us = some b
def dIsi (ans : PV → Option Bool) (da : DE) : DE := bindE da fun x => match x with
  | .pv p => match ans p with
    | some b => rBl b
    | none => badE
  | _ => badE
/-- isinstance(x, c) -/
theorem sn_isi {a b : Expr} {c : V} {u : Value} {ans : PV → Option Bool} (hK : X.K = P.K) (hT : ∀ c ci, P.T c = some ci → ClsF P.K ci.C) (hu : ClsV c u) (hans : IsiOk P u ans) (ha : Sn X P W a da) (hb : PE X b (tC c)) (hg : Gl X "isinstance") (hm : X.mg "isinstance" = none)
    (he : starEach [a, b] X.env = (false, eval a X.env) :: starEach [b] X.env := by rfl) (he2 : starEach [b] X.env = (false, eval b X.env) :: starEach [] X.env := by rfl) (hpl : (backTo pos (starEach [b] X.env)).any (·.1) = false := by rfl) :
    Sn X P W (.Call (.Name "isinstance" p) [a, b] [] pos) (dIsi ans da) := by
  refine PE.imp (pe_callB call_isi hg hm (by decide +kernel) (pa_cons ha (pa_cons hb pa_nil he2) he) (by decide) (by decide) he hpl) fun σ H Q h => ?_
  obtain ⟨F, cad, st, r, h⟩ := h
  refine At.rd r ((At.bind (R := RepS P) h).mono fun v H1 ⟨F1, cad1, x, e1, b1, r1, s1, a1⟩ => ?_)
  dsimp only at a1
  split at a1
  · split at a1
    · rename_i bb hbb
      obtain ⟨t, ht, hk⟩ := hans _ _ hbb
      exact ⟨v, c, t, u, bb, rfl, hu, by rw [hK]; exact tyX_of r1.c.sub hT s1 ht, by rw [hK]; exact hk, At.ret r1 a1 rfl⟩
    · exact a1.elim
  · exact a1.elim
/-- isinstance(x, (c, d)) -/
theorem sn_isiT {a b1 b2 : Expr} {c1 c2 : V} {u1 u2 : Value} {ans : PV → Option Bool} {x1} {p3 : Pos} (hK : X.K = P.K) (hT : ∀ c ci, P.T c = some ci → ClsF P.K ci.C) (hu1 : ClsV c1 u1) (hu2 : ClsV c2 u2) (hans : IsiOkT P [u1, u2] ans) (ha : Sn X P W a da) (hb1 : PE X b1 (tC c1)) (hb2 : PE X b2 (tC c2)) (hg : Gl X "isinstance") (hm : X.mg "isinstance" = none)
    (he : starEach [a, .Tuple [b1, b2] x1 p3] X.env = (false, eval a X.env) :: starEach [.Tuple [b1, b2] x1 p3] X.env := by rfl) (he2 : starEach [.Tuple [b1, b2] x1 p3] X.env = (false, eval (.Tuple [b1, b2] x1 p3) X.env) :: starEach [] X.env := by rfl) (hpl : (backTo pos (starEach [.Tuple [b1, b2] x1 p3] X.env)).any (·.1) = false := by rfl)
    (he3 : starEach [b1, b2] X.env = (false, eval b1 X.env) :: starEach [b2] X.env := by rfl) (he4 : starEach [b2] X.env = (false, eval b2 X.env) :: starEach [] X.env := by rfl) :
    Sn X P W (.Call (.Name "isinstance" p) [a, .Tuple [b1, b2] x1 p3] [] pos) (dIsi ans da) := by
  refine PE.imp (pe_callB call_isiT hg hm (by decide +kernel) (pa_cons ha (pa_cons (pe_tup (pa_cons hb1 (pa_cons hb2 pa_nil he4) he3)) pa_nil he2) he) (by decide) (by decide) he hpl) fun σ H Q h => ?_
  obtain ⟨F, cad, st, r, h⟩ := h
  refine At.rd r ((At.bind (R := RepS P) h).mono fun v H1 ⟨F1, cad1, x, e1, b1, r1, s1, a1⟩ => ?_)
  dsimp only at a1
  split at a1
  · split at a1
    · rename_i bb hbb
      refine ⟨by show 2 ≤ sizeLine; rw [sizeLine_eq]; decide, fun tp htp => ?_⟩
      obtain ⟨t, ht, hk⟩ := hans _ _ hbb
      have tx := tyX_of r1.c.sub hT s1 ht
      rw [← hK] at tx hk
      refine ⟨v, tp, [c1, c2], t, [u1, u2], bb, rfl, upd_same, .cons hu1 (.cons hu2 .nil), tyX_of ((r1.c.sub).trans (keep_upd htp)) hT s1 ht |> (by rw [hK]; exact ·), hk, ?_⟩
      -- the tuple stands beside
      exact a1 _ _ ⟨F1, cad1, ⟨Le.refl _, List.prefix_refl _, fun y hy hn => absurd hy hn, fun y o hy _ => keep_upd htp _ _ hy, fun _ _ h => .inl h⟩, ⟨r1.c.lay htp, r1.sl, r1.slot⟩, rfl⟩
    · exact a1.elim
  · exact a1.elim
end
end Sh
namespace Sh
open PySem PySem.Spec PyProof.Rows L2
/-! # Operators of own classes -/
theorem int_add_declines (i : Int) (t : Tok) (x C dx : Addr) : Meets (Builtin.«int.__add__» ⟨[.int i t, .ref x], []⟩) (fun _ R s => s.heap.get? x = some (PySem.W.instObj C dx) ∧ R (.ok (.ret .notImplemented)) s) :=
  .of_wp fun prog w A R s h => by
    obtain ⟨hp, g, d, tk, os⟩ := s
    obtain ⟨hl, h⟩ := h
    wp_walk using wpAny_load hl
    exact ⟨_, rfl, h⟩
theorem int_sub_declines (i : Int) (t : Tok) (x C dx : Addr) : Meets (Builtin.«int.__sub__» ⟨[.int i t, .ref x], []⟩) (fun _ R s => s.heap.get? x = some (PySem.W.instObj C dx) ∧ R (.ok (.ret .notImplemented)) s) :=
  .of_wp fun prog w A R s h => by
    obtain ⟨hp, g, d, tk, os⟩ := s
    obtain ⟨hl, h⟩ := h
    wp_walk using wpAny_load hl
    exact ⟨_, rfl, h⟩
theorem int_mul_declines (i : Int) (t : Tok) (x C dx : Addr) : Meets (Builtin.«int.__mul__» ⟨[.int i t, .ref x], []⟩) (fun _ R s => s.heap.get? x = some (PySem.W.instObj C dx) ∧ R (.ok (.ret .notImplemented)) s) :=
  .of_wp fun prog w A R s h => by
    obtain ⟨hp, g, d, tk, os⟩ := s
    obtain ⟨hl, h⟩ := h
    wp_walk using wpAny_load hl
    exact ⟨_, rfl, h⟩
open PySem.W in
theorem own_refl {prog : Program} {w : World} {A : Around} {E : Value → Shared → Prop} {s : Shared} {K : Frag} {x C dx f g : Addr} {od : Option Obj} {op : Operator} {id : String} {B : Builtin} {i : Int} {t : Tok} {Q : Value → Shared → Prop}
    (X : K.In s.heap) (I : InstAt s.heap x (instObj C dx) C od) (hc : selfFirst K C = true) (hs : findIn K (.ref C) (PySem.dunder op.info.2) = some (some (.ref f))) (hr : findIn K (.ref C) (dunderR op.info.2) = some (some (.ref g))) (hg : isFn K (.ref g) = true)
    (hsub : subIn K (.ref C) (.type "int") = some false) (slot : Slot "int" (PySem.dunder op.info.2) id) (entry : entryFor table id = some B) (args : argsOk id ⟨[.int i t, .ref x], []⟩)
    (dec : Meets (B ⟨[.int i t, .ref x], []⟩) (fun _ R s => s.heap.get? x = some (instObj C dx) ∧ R (.ok (.ret .notImplemented)) s)) (fills : fillsNumberSlot (.type "int") op.info.2 = pure true)
    (h : wpAny (model prog w) A (call (.ref g) [.ref x, .int i t]) (PySem.W.CmpBack Q) E s) : wpAny (model prog w) A (binaryOp op (.int i t) (.ref x)) Q E s := by
  obtain ⟨cd, rest, hcd, hm⟩ := ksp_first hc
  rcases hi : op.info with ⟨sym, nm'⟩
  rw [hi] at hs hr slot fills
  dsimp only at hs hr slot fills
  have one := ksp_try X I hr hg h
  have hx : s.heap.get? x = some (instObj C dx) := I.1
  have dcl : wpAny (model prog w) A (tryMethod (.int i t) (PySem.dunder nm') (.ref x)) (fun r s' => r = none ∧ s' = s) E s := by
    refine wpAny_tryMethod_declines (typeIs_int s i t) slot (call_meets slot (typeIs_int s i t) entry args dec ⟨hx, rfl, rfl, rfl⟩)
  obtain ⟨hh, gg, d, tt, os⟩ := s
  have L1 : Looks (model prog w) hh (typeOf (.int i t)) (.type "int") := Looks.of_pure rfl
  have L2 : Looks (model prog w) hh (typeOf (.ref x)) (.ref C) := I.type
  have L3 : Looks (model prog w) hh (fillsNumberSlot (.type "int") nm') true := Looks.of_pure fills
  have L4 : Looks (model prog w) hh (fillsNumberSlot (.ref C) nm') true := fills_K X hcd hm hs
  have L5 : Looks (model prog w) hh (isSubtype (.ref C) (.type "int")) false := looks_subIn X hsub
  have L6 : Looks (model prog w) hh (numberSlotInPython (.type "int") nm') false := Looks.of_pure rfl
  have hne : (Value.type "int" == Value.ref C) = false := Bool.eq_false_iff.mpr fun q => by cases beq_iff_eq.mp q
  simp only [binaryOp, hi]
  refine wpAny_holding (wpAny_bind ?_)
  unfold binaryOp1
  refine wpAny_bind (L1.at (wpAny_bind (L2.at (wpAny_bind (L3.at ?_)))))
  simp only [hne, Bool.false_eq_true, if_false]
  ksp_lk
  refine wpAny_mono dcl (fun r s' hr' => ?_) fun _ _ e => e
  obtain ⟨rfl, rfl⟩ := hr'
  ksp_lk
  refine wpAny_mono one (fun r s' hr' => ?_) fun _ _ e => e
  obtain ⟨v, rfl, hq⟩ := hr'
  ksp_lk
  exact hq
/-- what an operator of an own class at C asks: its def at f, the reflected one at g -/
structure OpF (K : PySem.W.Frag) (C : Addr) (nm : String) (f g : Addr) : Prop where
  sf : PySem.W.selfFirst K C = true
  at_ : PySem.W.findIn K (.ref C) (PySem.dunder nm) = some (some (.ref f))
  fn : PySem.W.isFn K (.ref f) = true
  rt : PySem.W.findIn K (.ref C) (PySem.dunderR nm) = some (some (.ref g))
  rn : PySem.W.isFn K (.ref g) = true
  it : ∃ fo, PySem.W.findIn K (.type "int") (PySem.dunder nm) = some fo
  ir : ∃ ro, PySem.W.findIn K (.type "int") (PySem.dunderR nm) = some ro
  si : PySem.W.subIn K (.type "int") (.ref C) = some false
  is : PySem.W.subIn K (.ref C) (.type "int") = some false
/-- the int on the left steps back -/
structure IntDec (op : Operator) : Prop where
  ex : ∃ id B, Slot "int" (PySem.dunder op.info.2) id ∧ entryFor table id = some B ∧ (∀ a b, argsOk id ⟨[a, b], []⟩) ∧ fillsNumberSlot (.type "int") op.info.2 = pure true ∧
    ∀ (i : Int) (t : Tok) (x C dx : Addr), Meets (B ⟨[.int i t, .ref x], []⟩) (fun _ R s => s.heap.get? x = some (PySem.W.instObj C dx) ∧ R (.ok (.ret .notImplemented)) s)
theorem dec_add : IntDec .Add := ⟨_, _, PySem.F.slot_int_add, PySem.F.entry_int_add, PySem.F.args_int_add_2, PySem.F.fills_int_add, int_add_declines⟩
theorem dec_sub : IntDec .Sub := ⟨_, _, PySem.F.slot_int_sub, PySem.F.entry_int_sub, PySem.F.args_int_sub_2, PySem.F.fills_int_sub, int_sub_declines⟩
theorem dec_mul : IntDec .Mult := ⟨_, _, PySem.F.slot_int_mul, PySem.F.entry_int_mul, PySem.F.args_int_mul_2, PySem.F.fills_int_mul, int_mul_declines⟩
def okRight (c : Nat) : PV → Bool
  | .int _ => true
  | .ins c' _ => c' == c
  | _ => false
def oOwn (c : Nat) (dl dr : DF) (rest : SV → SV → DE) : SV → SV → DE := fun x y => match x, y with
  | .pv (.ins c' ps), .pv q => if c' = c ∧ okRight c q = true then callP dl [.pv (.ins c' ps), .pv q] else badE
  | .pv (.int i), .pv (.ins c' ps) => if c' = c then callP dr [.pv (.ins c' ps), .pv (.int i)] else badE
  | x, y => rest x y
section
variable {X : Cx} {P : Pr} {W : WX} {c k k' : Nat} {ci : CI} {g g' : Bool} {fa ga : Addr} {fd gd : FuncData} {ps qs : List Str} {dl dr : DF}
theorem inst_of {pins : List (Addr × Obj)} {σ : L2.St} {H : Hp} {s : Shared} (I : Inv X pins σ H s) {a C dx : Addr} {fs : List (Str × V)} (h : H a = some (.ins C dx fs)) : ∃ od, PySem.W.InstAt s.heap a (PySem.W.instObj C dx) C (some od) := by
  obtain ⟨mA, O, _⟩ := ins_get I.hok h
  obtain ⟨od, J, _⟩ := O.look
  exact ⟨od, J⟩
theorem binds2 {K : PySem.W.Frag} {fd : FuncData} {ps : List Str} (hb : Binds K fd ps []) {s : Shared} (hk : K.In s.heap) {a b : Value} (hl : ps.length = 2) : BindsTo s fd ⟨[a, b], []⟩ (ps.zip [a, b]) := by
  have := hb s [a, b] hk (by simp [hl])
  simpa using this
theorem op_own {op : Operator} {rest : SV → SV → DE} (hT : P.T c = some ci) (O : OpF X.K ci.C op.info.2 fa ga) (dec : IntDec op) (TL : FnD X.prog X.w X.K X.mg X.base P k g fa fd ps dl) (TR : FnD X.prog X.w X.K X.mg X.base P k' g' ga gd qs dr)
    (hr : Room k X.A) (hr' : Room k' X.A) (hg : g = true → X.A.guards = some []) (hg' : g' = true → X.A.guards = some []) (tk : Takes X W) (hbl : Binds X.K fd ps []) (hbr : Binds X.K gd qs []) (hl : ps.length = 2) (hl' : qs.length = 2) (ho : OpSn X P W (binaryOp op) rest) : OpSn X P W (binaryOp op) (oOwn c dl dr rest) := by
  intro pins s σ H x y v u Q I rx ry hh
  obtain ⟨F, cad, e, sx, sy, r, s1, s2, a⟩ := hh
  unfold oOwn at a
  obtain ⟨m, hF⟩ := I.fr
  have back : ∀ {f : Addr} {us : List Value}, wpAny (model X.prog X.w) X.A (call (.ref f) us) (EP X pins σ Q) X.xe s → wpAny (model X.prog X.w) X.A (call (.ref f) us) (PySem.W.CmpBack (EP X pins σ Q)) X.xe s := fun h => by
    refine wpAny_mono h (fun w s' z => ?_) fun _ _ z => z
    obtain ⟨z', H', I', rz, qz⟩ := z
    exact SlX.cmpback rz ⟨z', H', I', rz, qz⟩
  split at a
  · rename_i c' qv q
    split at a
    · rename_i hcq
      obtain ⟨rfl, hq⟩ := hcq
      have s1c := s1
      obtain ⟨b, ci', dx, vs, rfl, h1, h2, h3, h4⟩ := s1c
      rw [hT] at h1
      cases h1
      cases (show v = Value.ref b from rx)
      obtain ⟨od, J⟩ := inst_of I (r.c.sub _ _ h2)
      obtain ⟨F2, cad2, cs2, ys, rc, rs, hsat⟩ := callP_ok (vs := [.ref b, y]) r (.cons s1 (.cons s2 .nil)) a
      have run : wpAny (model X.prog X.w) X.A (call (.ref fa) [.ref b, u]) (EP X pins σ Q) X.xe s := TL.call (vs := [.ref b, y]) hr hg tk I (binds2 hbl I.kIn hl) (.cons rfl (.cons ry .nil)) (by simp [hl]) rc rs hsat
      cases q <;> first | exact absurd hq Bool.false_ne_true | skip
      · obtain ⟨t, rfl⟩ := (show ∃ t, u = Value.int _ t by cases s2; exact ry)
        obtain ⟨fo, hfo⟩ := O.it
        obtain ⟨ro, hro⟩ := O.ir
        exact PySem.W.ksp_binT hF I.ok.mod.kin J (T := "int") rfl O.sf O.at_ O.fn O.rt (.inr ⟨_, rfl⟩) hfo hro O.si (back run)
      · rename_i c2 q2
        have hc2 : c2 = c' := by simpa [okRight] using hq
        subst hc2
        obtain ⟨b', ci', dx', vs', rfl, h1', h2', h3', h4'⟩ := s2
        rw [hT] at h1'
        cases h1'
        cases (show u = Value.ref b' from ry)
        obtain ⟨od', J'⟩ := inst_of I (r.c.sub _ _ h2')
        exact PySem.W.binop_K hF I.ok.mod.kin J J'.type O.sf O.at_ O.fn (back run)
    · exact a.elim
  · rename_i i c' qv
    split at a
    · rename_i hcc
      subst hcc
      have s2c := s2
      obtain ⟨b, ci', dx, vs, rfl, h1, h2, h3, h4⟩ := s2c
      rw [hT] at h1
      cases h1
      cases (show u = Value.ref b from ry)
      obtain ⟨t, rfl⟩ := (show ∃ t, v = Value.int i t by cases s1; exact rx)
      obtain ⟨od, J⟩ := inst_of I (r.c.sub _ _ h2)
      obtain ⟨F2, cad2, cs2, ys, rc, rs, hsat⟩ := callP_ok (vs := [.ref b, x]) r (.cons s2 (.cons s1 .nil)) a
      have run : wpAny (model X.prog X.w) X.A (call (.ref ga) [.ref b, .int i t]) (EP X pins σ Q) X.xe s := TR.call (vs := [.ref b, x]) hr' hg' tk I (binds2 hbr I.kIn hl') (.cons rfl (.cons rx .nil)) (by simp [hl']) rc rs hsat
      obtain ⟨id, B, slot, entry, args, fills, dc⟩ := dec.ex
      exact own_refl I.kIn J O.sf O.at_ O.rt O.rn O.is slot entry (args _ _) (dc i t b ci.C dx) fills (back run)
    · exact a.elim
  · exact ho pins s σ H x y v u Q I rx ry ⟨F, cad, e, _, _, r, s1, s2, a⟩
/-- - x of an own class -/
def oNegO (c : Nat) (d : DF) (rest : SV → DE) : SV → DE := fun x => match x with
  | .pv (.ins c' ps) => if c' = c then callP d [.pv (.ins c' ps)] else badE
  | x => rest x
theorem un_own {rest : SV → DE} (hT : P.T c = some ci) (hs : PySem.W.findIn X.K (.ref ci.C) "__neg__" = some (some (.ref fa))) (hf : PySem.W.isFn X.K (.ref fa) = true) (TL : FnD X.prog X.w X.K X.mg X.base P k g fa fd ps dl)
    (hr : Room k X.A) (hg : g = true → X.A.guards = some []) (tk : Takes X W) (hbl : Binds X.K fd ps []) (hl : ps.length = 1) (ho : UnSn X P W (unaryOp .USub) rest) : UnSn X P W (unaryOp .USub) (oNegO c dl rest) := by
  intro pins s σ H x v Q I rx hh
  obtain ⟨F, cad, e, sx, r, s1, a⟩ := hh
  unfold oNegO at a
  obtain ⟨m, hF⟩ := I.fr
  split at a
  · rename_i c' qv
    split at a
    · rename_i hcc
      subst hcc
      have s1c := s1
      obtain ⟨b, ci', dx, vs, rfl, h1, h2, h3, h4⟩ := s1c
      rw [hT] at h1
      cases h1
      cases (show v = Value.ref b from rx)
      obtain ⟨od, J⟩ := inst_of I (r.c.sub _ _ h2)
      obtain ⟨F2, cad2, cs2, ys, rc, rs, hsat⟩ := callP_ok (vs := [.ref b]) r (.cons s1 .nil) a
      exact PySem.W.ksp_neg hF I.ok.mod.kin J hs hf (TL.call (vs := [.ref b]) hr hg tk I (by have := hbl s [.ref b] I.kIn (by simp [hl]); simpa using this) (.cons rfl .nil) (by simp [hl]) rc rs hsat)
    · exact a.elim
  · exact ho pins s σ H x v Q I rx ⟨F, cad, e, _, r, s1, a⟩
end
end Sh
namespace Sh
open PySem PySem.Spec PyProof.Rows L2
/-! # == and != of own classes -/
section
open PySem.W PySem.Builtin
variable {prog : Program} {w : World} {A : Around} {E : Value → Shared → Prop} {s : Shared} {K : Frag} {x C L f : Addr} {h₀ : Heap} {m : Str → Option Value} {ox : Obj} {od : Option Obj} {b tb : Value}
theorem check_ne (X : K.In s.heap) (I : InstAt s.heap x ox C od) (ho : subIn K (.ref C) (.type "object") = some true) {Q : Unit → Shared → Prop} (hq : Q () s) : wpAny (model prog w) A (checkBuiltinCall "object.__ne__" ⟨[.ref x, b], []⟩) Q E s := by
  simp only [checkBuiltinCall, PySem.F.cmpKind_ne, PySem.F.cmpSplit_ne]
  refine wpAny_bind ?_
  unfold isInstance
  refine wpAny_bind (I.type.here ((looks_subIn X ho).here ?_))
  have ha := PySem.F.cmpArgs_ne (.ref x) b
  cases hsig : Manifest.signature? "object.__ne__" with
  | none => first | exact wpAny_pure hq | (simp only [if_true]; exact wpAny_pure hq) | wp_step
  | some sig =>
    simp only [argsOk, hsig] at ha
    have h2 : Bind.checkArgs "object.__ne__" sig ⟨[.ref x, b], []⟩ = pure () := ha
    show wpAny _ A (Bind.checkArgs "object.__ne__" sig ⟨[.ref x, b], []⟩) Q E _
    rw [h2]; exact wpAny_pure hq
theorem ne_body (X : K.In s.heap) (I : InstAt s.heap x ox C od) (hu : A.units < cLine) (hs : findIn K (.ref C) "__eq__" = some (some (.ref f))) (hf : isFn K (.ref f) = true) {Q : Fin → Shared → Prop}
    (h : wpAny (model prog w) A (call (.ref f) [.ref x, b]) (fun v s' => ∃ k, v = .bool k ∧ Q (.done (.ret (.bool (!k)))) s') E s) : wpAny (model prog w) A (Builtin.«object.__ne__» ⟨[.ref x, b], []⟩) Q E s := by
  unfold Builtin.«object.__ne__»
  repeat (first
    | with_reducible refine wpAny_cRoomFor hu ?_
    | (refine wpAny_bind (m := callSpecialIfBound? (.ref x) (Str.ofString "__eq__") [b])
        (ifBound_K X I hs hf (wpAny_mono h (fun r s' hr => by
          obtain ⟨b, rfl, hq⟩ := hr
          repeat (first | exact hq | exact wpAny_pure hq | exact wpAny_truthy_bool hq | (refine wpAny_bind (m := truthy (.bool _)) (wpAny_truthy_bool ?_)) | wp_step)) fun _ _ e => e)))
    | wp_step)
theorem ne_K {Q : Value → Shared → Prop} (hu : A.units + 1 < cLine) (F : Fr h₀ L s.heap m) (X₀ : K.In h₀) (I : InstAt s.heap x ox C od) (hb : Looks (model prog w) s.heap (typeOf b) tb) (hn : notFirst K C tb = true)
    (hs : findIn K (.ref C) "__eq__" = some (some (.ref f))) (hf : isFn K (.ref f) = true) (hne : findIn K (.ref C) "__ne__" = some (some (.builtin "object.__ne__"))) (ho : subIn K (.ref C) (.type "object") = some true)
    (h : wpAny (model prog w) A.in1 (call (.ref f) [.ref x, b]) (fun v s' => ∃ k, v = .bool k ∧ Q (.bool (!k)) s') E s) : wpAny (model prog w) A (richCompare .NotEq (.ref x) b) Q E s := by
  have X := X₀.keeps F.keep
  have one : wpAny (model prog w) A (tryCompare (.ref x) (cmpInfo .NotEq).2.1 b) (fun r s' => ∃ k, r = some (.bool (!k)) ∧ Q (.bool (!k)) s') E s := by
    simp only [cmpInfo_NotEq, tryCompare, callSpecialIfBound?, bindSpecialIfBound?]
    refine wpAny_bind (wpAny_holding (wpAny_bind (wpAny_bind (wpAny_bind (I.type.here ((looks_findIn X hne).here ?_))))))
    have hcall : wpAny (model prog w) A (call (.builtin "object.__ne__") [.ref x, b]) (fun v s' => ∃ k, v = .bool (!k) ∧ Q (.bool (!k)) s') E s :=
      wpAny_call (codeAny_call_builtin PySem.F.cmp_object.ne.plain PySem.F.cmpEntry_ne (check_ne X I ho (ne_body (A := A.in1) X I hu hs hf (wpAny_mono h (fun v s' hv => by
        obtain ⟨k, rfl, hq⟩ := hv
        exact ⟨k, rfl, k, rfl, hq⟩) fun _ _ e => e))))
    simp only [PySem.F.cmp_object.ne.bind]
    refine wpAny_bind (wpAny_askSetting (wpAny_ite ?_))
    have fin : ∀ {Z : Option Value → Shared → Prop}, (∀ k s', Q (.bool (!k)) s' → Z (some (.bool (!k))) s') → wpAny (model prog w) A (call (.builtin "object.__ne__") ([.ref x] ++ [b]) >>= fun v => pure (some v)) Z E s := fun hz =>
      wpAny_bind (wpAny_mono hcall (fun v s' h' => by
        obtain ⟨k, rfl, hq⟩ := h'
        exact wpAny_pure (hz k s' hq)) fun _ _ h' => h')
    split
    · exact wpAny_bind (wpAny_pure (wpAny_pure (by exact fin fun k s' hq => wpAny_pure ⟨k, rfl, hq⟩)))
    · exact wpAny_tryCatch (wpAny_bind (wpAny_pure (wpAny_pure (by exact fin fun k s' hq => wpAny_pure ⟨k, rfl, hq⟩))))
  unfold richCompare
  simp only [oneThing_ref]
  refine wpAny_holding (wpAny_bind (wpAny_cRoomFor (Nat.lt_of_succ_lt hu) ?_))
  refine wpAny_bind (I.type.here (wpAny_bind (hb.here ?_)))
  split
  · rename_i q
    have e : subIn K tb (.ref C) = some false := by
      rcases Bool.or_eq_true_iff.mp hn with e | e
      · rw [beq_iff_eq.mp e] at q; simp at q
      · exact beq_iff_eq.mp e
    refine wpAny_bind ((looks_subIn X e).here ?_)
    simp only [Bool.false_eq_true, if_false]
    refine wpAny_bind (wpAny_mono one (fun r s' z => ?_) fun _ _ e => e)
    obtain ⟨v, rfl, hq⟩ := z
    exact wpAny_pure hq
  · refine wpAny_bind (wpAny_pure ?_)
    simp only [Bool.false_eq_true, if_false]
    refine wpAny_bind (wpAny_mono one (fun r s' z => ?_) fun _ _ e => e)
    obtain ⟨v, rfl, hq⟩ := z
    exact wpAny_pure hq
end
section
variable {X : Cx} {P : Pr} {W : WX} {c k : Nat} {ci : CI} {g : Bool} {fa : Addr} {fd : FuncData} {ps : List Str} {d : DF}
theorem FnD.callA (T : FnD X.prog X.w X.K X.mg X.base P k g fa fd ps d) {A : Around} (hA : A.frames = X.A.frames) (hr : Room k A) (hg : g = true → A.guards = some []) (tk : Takes X W) {pins : List (Addr × Obj)} {σ : L2.St} {H : Hp} {s : Shared} {us : List Value} {vs : List V} {args : List Value} {kw : List (Str × Value)} {Q : VK}
    (I : Inv X pins σ H s) (hb : BindsTo s fd ⟨args, kw⟩ (ps.zip us)) (r : Vals vs us) (hl : vs.length = ps.length) {F : Hp} {cad : List Addr} {cs : Cs} {xs : List SV} (rc : RelC P F cad cs H) (rs : RepSs P F cad xs vs) (h : SatF P F cad H Q (fun cls dx H' => W cls dx σ H') (d xs cs)) :
    wpAny (model X.prog X.w) A (PySem.call (.ref fa) args kw) (EP X pins σ Q) X.xe s := by
  have e := I.env0
  refine wpAny_call (codeAny_mono (T.run A X.stack s H ⟨args, kw⟩ us vs Q (fun cls dx H' => W cls dx σ H') hr hg ⟨by rw [hA]; exact e.frames, e.mod, e.bs, e.bsz, e.funs, e.frf, e.hok, e.bare⟩ hb r hl ⟨F, cad, cs, xs, rc, rs, h⟩) fun o s' q => ?_)
  rcases o with er | fl
  · exact tk er s' (XE.of_call I (fun _ _ _ z => z) q)
  · cases fl <;> first | exact q.elim | exact I.after q
/-- the own == of the class at C: its def at f -/
structure EqF (K : PySem.W.Frag) (C f : Addr) : Prop where
  at_ : PySem.W.findIn K (.ref C) "__eq__" = some (some (.ref f))
  fn : PySem.W.isFn K (.ref f) = true
  ne : PySem.W.findIn K (.ref C) "__ne__" = some (some (.builtin "object.__ne__"))
  ob : PySem.W.subIn K (.ref C) (.type "object") = some true
  si : PySem.W.subIn K (.type "int") (.ref C) = some false
  sb : PySem.W.subIn K (.type "bool") (.ref C) = some false
  ss : PySem.W.subIn K (.type "str") (.ref C) = some false
  sn : PySem.W.subIn K (.type "NoneType") (.ref C) = some false
def okEq (c : Nat) : PV → Bool
  | .int _ => true
  | .bl _ => true
  | .str _ => true
  | .non => true
  | .ins c' _ => c' == c
  | _ => false
def oEqO (c : Nat) (d : DF) (rest : SV → SV → DE) : SV → SV → DE := fun x y => match x, y with
  | .pv (.ins c' ps), .pv q => if c' = c ∧ okEq c q = true then callP d [.pv (.ins c' ps), .pv q] else rest x y
  | x, y => rest x y
def dFlip (d : DE) : DE := bindE d fun x => match x with
  | .pv (.bl b) => rBl (!b)
  | _ => badE
def oNeO (c : Nat) (d : DF) (rest : SV → SV → DE) : SV → SV → DE := fun x y => match x, y with
  | .pv (.ins c' ps), .pv q => if c' = c ∧ okEq c q = true then dFlip (callP d [.pv (.ins c' ps), .pv q]) else rest x y
  | x, y => rest x y
theorem ty_of {pins : List (Addr × Obj)} {σ : L2.St} {H F : Hp} {s : Shared} (I : Inv X pins σ H s) (l : Le F H) (hT : P.T c = some ci) (O : EqF X.K ci.C fa) {q : PV} (hq : okEq c q = true) {y : V} {u : Value} (s2 : Rep P F q y) (ry : RelV y u) :
    ∃ tb, PySem.W.Looks (model X.prog X.w) s.heap (typeOf u) tb ∧ PySem.W.notFirst X.K ci.C tb = true := by
  cases q <;> first | exact absurd hq Bool.false_ne_true | skip
  · cases s2
    cases (show u = Value.none from ry)
    exact ⟨.type "NoneType", PySem.W.Looks.of_pure rfl, by simp [PySem.W.notFirst, O.sn]⟩
  · cases s2
    cases (show u = Value.bool _ from ry)
    exact ⟨.type "bool", PySem.W.Looks.of_pure rfl, by simp [PySem.W.notFirst, O.sb]⟩
  · cases s2
    obtain ⟨t, rfl⟩ := (show ∃ t, u = Value.int _ t from ry)
    exact ⟨.type "int", PySem.W.Looks.of_pure rfl, by simp [PySem.W.notFirst, O.si]⟩
  · cases s2
    obtain ⟨t, rfl⟩ := (show ∃ t, u = Value.str _ t from ry)
    exact ⟨.type "str", PySem.W.Looks.of_pure rfl, by simp [PySem.W.notFirst, O.ss]⟩
  · rename_i c2 q2
    have hc2 : c2 = c := by simpa [okEq] using hq
    subst hc2
    obtain ⟨b', ci', dx', vs', rfl, h1', h2', h3', h4'⟩ := s2
    rw [hT] at h1'
    cases h1'
    cases (show u = Value.ref b' from ry)
    obtain ⟨od', J'⟩ := inst_of I (l _ _ h2')
    exact ⟨.ref ci.C, J'.type, by simp [PySem.W.notFirst]⟩
theorem op_eqO {rest : SV → SV → DE} (hT : P.T c = some ci) (O : EqF X.K ci.C fa) (T : FnD X.prog X.w X.K X.mg X.base P k g fa fd ps d) (hr : Room k X.A) (hg : g = true → X.A.guards = some []) (tk : Takes X W) (hb : Binds X.K fd ps []) (hl : ps.length = 2) (ho : OpSn X P W (compareOp .Eq) rest) :
    OpSn X P W (compareOp .Eq) (oEqO c d rest) := by
  intro pins s σ H x y v u Q I rx ry hh
  obtain ⟨F, cad, e, sx, sy, r, s1, s2, a⟩ := hh
  unfold oEqO at a
  obtain ⟨m, hF⟩ := I.fr
  split at a
  · rename_i c' qv q
    split at a
    · rename_i hcq
      obtain ⟨rfl, hq⟩ := hcq
      have s1c := s1
      obtain ⟨b, ci', dx, vs, rfl, h1, h2, h3, h4⟩ := s1c
      rw [hT] at h1
      cases h1
      cases (show v = Value.ref b from rx)
      obtain ⟨od, J⟩ := inst_of I (r.c.sub _ _ h2)
      obtain ⟨tb, Lb, nf⟩ := ty_of I r.c.sub hT O hq s2 ry
      obtain ⟨F2, cad2, cs2, ys, rc, rs, hsat⟩ := callP_ok (vs := [.ref b, y]) r (.cons s1 (.cons s2 .nil)) a
      have run : wpAny (model X.prog X.w) X.A (call (.ref fa) [.ref b, u]) (EP X pins σ Q) X.xe s := T.call (vs := [.ref b, y]) hr hg tk I (binds2 hb I.kIn hl) (.cons rfl (.cons ry .nil)) (by simp [hl]) rc rs hsat
      refine PySem.W.cmp_K (op := .Eq) hr.units0 hF I.ok.mod.kin J Lb nf O.at_ O.fn (wpAny_mono run (fun w s' z => ?_) fun _ _ z => z)
      obtain ⟨z', H', I', rz, qz⟩ := z
      exact SlX.cmpback rz ⟨z', H', I', rz, qz⟩
    · exact ho pins s σ H x y v u Q I rx ry ⟨F, cad, e, _, _, r, s1, s2, a⟩
  · exact ho pins s σ H x y v u Q I rx ry ⟨F, cad, e, _, _, r, s1, s2, a⟩
theorem op_neO {rest : SV → SV → DE} (hT : P.T c = some ci) (O : EqF X.K ci.C fa) (T : FnD X.prog X.w X.K X.mg X.base P k g fa fd ps d) (hr : Room (k + 1) X.A) (hg : g = true → X.A.guards = some []) (tk : Takes X W) (hb : Binds X.K fd ps []) (hl : ps.length = 2) (ho : OpSn X P W (compareOp .NotEq) rest) :
    OpSn X P W (compareOp .NotEq) (oNeO c d rest) := by
  intro pins s σ H x y v u Q I rx ry hh
  obtain ⟨F, cad, e, sx, sy, r, s1, s2, a⟩ := hh
  unfold oNeO at a
  obtain ⟨m, hF⟩ := I.fr
  split at a
  · rename_i c' qv q
    split at a
    · rename_i hcq
      obtain ⟨rfl, hq⟩ := hcq
      have s1c := s1
      obtain ⟨b, ci', dx, vs, rfl, h1, h2, h3, h4⟩ := s1c
      rw [hT] at h1
      cases h1
      cases (show v = Value.ref b from rx)
      obtain ⟨od, J⟩ := inst_of I (r.c.sub _ _ h2)
      obtain ⟨tb, Lb, nf⟩ := ty_of I r.c.sub hT O hq s2 ry
      have a1 := At.bind (R := RepS P) a
      obtain ⟨F2, cad2, cs2, ys, rc, rs, hsat⟩ := callP_ok (vs := [.ref b, y]) r (.cons s1 (.cons s2 .nil)) a1
      have run := T.callA (A := X.A.in1) (us := [.ref b, u]) (args := [.ref b, u]) (kw := []) (vs := [.ref b, y]) rfl hr.in1 hg tk I (binds2 hb I.kIn hl) (.cons rfl (.cons ry .nil)) (by simp [hl]) rc rs hsat
      refine ne_K (A := X.A) (by have := hr.units; omega) hF I.ok.mod.kin J Lb nf O.at_ O.fn O.ne O.ob (wpAny_mono run (fun w s' z => ?_) fun _ _ z => z)
      obtain ⟨z', H', I', rz, F1, cad1, x1, e1, b1, r1, s1', a2⟩ := z
      dsimp only at a2
      split at a2
      · rename_i kb
        cases s1'
        cases (show w = Value.bool kb from rz)
        exact ⟨kb, rfl, .bl (!kb), H', I', rfl, At.ret r1 a2 rfl⟩
      · exact a2.elim
    · exact ho pins s σ H x y v u Q I rx ry ⟨F, cad, e, _, _, r, s1, s2, a⟩
  · exact ho pins s σ H x y v u Q I rx ry ⟨F, cad, e, _, _, r, s1, s2, a⟩
end
end Sh
namespace Sh
open PySem PySem.Spec PyProof.Rows L2
/-! # Texts -/
section
variable {X : Cx} {P : Pr} {W : WX} {e : Expr} {es : List Expr} {da : DE} {das : StE → Out (List SV)} {pos p : Pos} {x : Str}
/-! ### f-strings -/
def dFmt (da : DE) : DE := bindE da fun x => match x with
  | .pv (.str y) => if y.length ≤ 16777216 then retE (.pv (.str y)) else badE
  | .pv (.int i) => if i.natAbs.log2 < 1920 then retE (.pv (.str (toString i))) else badE
  | _ => badE
theorem sn_fmt (ha : Sn X P W e da) : Sn X P W (.FormattedValue e (-1) none pos) (dFmt da) := by
  refine PE.imp (pe_fmt ha) fun σ H Q h => ?_
  obtain ⟨F, cad, st, r, h⟩ := h
  refine At.rd r ((At.bind (R := RepS P) h).mono fun v H1 ⟨F1, cad1, x, e1, b, r1, s1, a⟩ => ?_)
  dsimp only at a
  split at a
  · split at a
    · rename_i hz
      cases s1
      exact .inl ⟨_, rfl, by rw [sizeLine_eq]; exact hz, At.ret r1 a rfl⟩
    · exact a.elim
  · split at a
    · rename_i hz
      cases s1
      exact .inr ⟨_, rfl, hz, At.ret r1 a rfl⟩
    · exact a.elim
  · exact a.elim
def dJoin : List DE → Str → DE
  | [], acc => retE (.pv (.str acc))
  | d :: ds, acc => bindE d fun x => match x with
    | .pv (.str y) => if (acc ++ y).length ≤ 16777216 then dJoin ds (acc ++ y) else badE
    | _ => badE
inductive SnJ (X : Cx) (P : Pr) (W : WX) : List Expr → List DE → Prop where
  | nil : SnJ X P W [] []
  | cons {e : Expr} {d : DE} {es : List Expr} {ds : List DE} (h : Sn X P W e d) (r : SnJ X P W es ds) : SnJ X P W (e :: es) (d :: ds)
theorem SnJ.pj {es : List Expr} {ds : List DE} (h : SnJ X P W es ds) : PJ X es (ds.map fun d => Rd P (RepS P) W d) := by
  induction h with
  | nil => exact .nil
  | cons h r ih => exact .cons h ih
theorem dJoin_ok {σ : L2.St} : ∀ {ds : List DE} {acc : Str} {H : Hp} {Q : VK}, Rd P (RepS P) W (dJoin ds acc) σ H Q → tJs (ds.map fun d => Rd P (RepS P) W d) acc σ H fun out H1 => Q (.str out) H1
  | [], acc, H, Q, h => Rd.ret (v := .str acc) h fun _ _ => rfl
  | d :: ds, acc, H, Q, h => by
    obtain ⟨F, cad, st, r, h⟩ := h
    refine At.rd r ((At.bind (R := RepS P) h).mono fun v H1 ⟨F1, cad1, x, e1, b, r1, s1, a⟩ => ?_)
    dsimp only at a
    split at a
    · split at a
      · rename_i hz
        cases s1
        exact ⟨_, rfl, by rw [sizeLine_eq]; exact hz, dJoin_ok (At.rd r1 a)⟩
      · exact a.elim
    · exact a.elim
theorem sn_joined {v1 v2 : Expr} {rest : List Expr} {ds : List DE} (h : SnJ X P W (v1 :: v2 :: rest) ds) : Sn X P W (.JoinedStr (v1 :: v2 :: rest) pos) (dJoin ds Str.empty) := PE.imp (pe_joined h.pj) fun σ H Q q => dJoin_ok q
theorem sn_joined1 (h : Sn X P W e da) : Sn X P W (.JoinedStr [e] pos) da := pe_joined1 h
/-! ### slices of texts -/
def slS (x : SV) (lo hi : Option Int) : DE := match x with
  | .pv (.str z) => if z.length ≤ 16777216 then retE (.pv (.str (cutS z lo hi))) else badE
  | _ => badE
theorem sn_slS {lo hi : Option Expr} {dl dh : StE → Out (Option Int)} {p2 : Pos} (ha : Sn X P W e da) (hl : SnP X P W lo dl) (hh : SnP X P W hi dh) : Sn X P W (.Subscript e (.Slice lo hi none p2) pos) (bindE da fun x => bindE dl fun l => bindE dh fun h => slS x l h) := by
  refine PE.imp (pe_slice sl_str ha hl hh) fun σ H Q h => ?_
  obtain ⟨F, cad, st, r, h⟩ := h
  refine At.rd r ((At.bind (R := RepS P) h).mono fun v H1 ⟨F1, cad1, x, e1, b1, r1, s1, a1⟩ => ?_)
  refine At.rd r1 ((At.bind (R := RPart) a1).mono fun l H2 ⟨F2, cad2, l', e2, b2, r2, s2, a2⟩ => ?_)
  cases s2
  refine At.rd r2 ((At.bind (R := RPart) a2).mono fun u H3 ⟨F3, cad3, u', e3, b3, r3, s3, a3⟩ => ?_)
  cases s3
  unfold slS at a3
  split at a3
  · split at a3
    · rename_i hz
      cases s1
      exact ⟨_, rfl, by rw [sizeLine_eq]; exact hz, At.ret r3 a3 rfl⟩
    · exact a3.elim
  · exact a3.elim
/-! ### calls of built-in names, by what they do -/
def CallSn (X : Cx) (P : Pr) (W : WX) (f : Value) (o : List SV → DE) : Prop :=
  ∀ (pins : List (Addr × Obj)) (s : Shared) (σ : L2.St) (H : Hp) (vs : List V) (us : List Value) (Q : VK), Inv X pins σ H s → Vals vs us → (∃ F cad e xs, Rel P F cad e σ H ∧ RepSs P F cad xs vs ∧ At P (RepS P) W (o xs) F cad e σ H Q) →
    wpAny (model X.prog X.w) X.A (call f us) (EP X pins σ Q) X.xe s
theorem CallSn.of {f : Value} {r : List V → Hp → VK → Prop} {o : List SV → DE} (hc : CallR X f r) (i : CallI P W r o) : CallSn X P W f o := by
  intro pins s σ H vs us Q I rv ⟨F, cad, e, xs, r, rs, a⟩
  exact hc pins s σ H vs us Q I rv (i F cad e σ H xs vs Q r rs a)
theorem sn_cb {id : String} {o : List SV → DE} (hc : CallSn X P W (.builtin id) o) (hg : Gl X x) (hm : X.mg x = none) (hv : bootBuiltins x = some (.builtin id)) (ha : SnA X P W (e :: es) das) (hn : x ≠ "__name__" := by decide) (hdb : (x == ("__debug__" : Str)) = false := by decide)
    (he : starEach (e :: es) X.env = (false, eval e X.env) :: starEach es X.env := by rfl) (hpl : (backTo pos (starEach es X.env)).any (·.1) = false := by rfl) : Sn X P W (.Call (.Name x p) (e :: es) [] pos) (bindE das o) := by
  refine ⟨fun pins s σ H Q I ⟨F, cad, st, r, h⟩ => wpAny_Call_Name_kw (ld_blt I hg hm hv ?_ hn hdb)⟩
  refine PyProof.Rows.callWith_builtin1 (thn (ha.run pos pins s σ H _ I (At.rd r (At.bind (R := RepSs P) h))) fun us s1 ⟨vs, H1, I1, rv, F1, cad1, xs, e1, b1, r1, s1', a1⟩ => ?_) he hpl
  exact hc pins s1 σ H1 vs us Q I1 rv ⟨F1, cad1, e1, xs, r1, s1', a1⟩
theorem sn_cbT {T : String} {o : List SV → DE} (hc : CallSn X P W (.type T) o) (hg : Gl X x) (hm : X.mg x = none) (hv : bootBuiltins x = some (.type T)) (ha : SnA X P W (e :: es) das) (hn : x ≠ "__name__" := by decide) (hdb : (x == ("__debug__" : Str)) = false := by decide)
    (he : starEach (e :: es) X.env = (false, eval e X.env) :: starEach es X.env := by rfl) (hpl : (backTo pos (starEach es X.env)).any (·.1) = false := by rfl) : Sn X P W (.Call (.Name x p) (e :: es) [] pos) (bindE das o) := by
  refine ⟨fun pins s σ H Q I ⟨F, cad, st, r, h⟩ => wpAny_Call_Name_kw (ld_blt I hg hm hv ?_ hn hdb)⟩
  refine PyProof.Rows.callWith_type1 (thn (ha.run pos pins s σ H _ I (At.rd r (At.bind (R := RepSs P) h))) fun us s1 ⟨vs, H1, I1, rv, F1, cad1, xs, e1, b1, r1, s1', a1⟩ => ?_) he hpl
  exact hc pins s1 σ H1 vs us Q I1 rv ⟨F1, cad1, e1, xs, r1, s1', a1⟩
/-! ### str, repr of own things -/
section
variable {c k : Nat} {ci : CI} {g : Bool} {fa : Addr} {fd : FuncData} {ps : List Str} {d : DF}
theorem FnD.callAN (T : FnD X.prog X.w X.K X.mg X.base P k g fa fd ps d) {A : Around} (hA : A.frames = X.A.frames) (hr : Room k A) (hg : g = true → A.guards = some []) {pins : List (Addr × Obj)} {σ : L2.St} {H : Hp} {s : Shared} {us : List Value} {vs : List V} {args : List Value} {kw : List (Str × Value)} {Q : VK} {E : Value → Shared → Prop}
    (I : Inv X pins σ H s) (hb : BindsTo s fd ⟨args, kw⟩ (ps.zip us)) (r : Vals vs us) (hl : vs.length = ps.length) {F : Hp} {cad : List Addr} {cs : Cs} {xs : List SV} (rc : RelC P F cad cs H) (rs : RepSs P F cad xs vs) (h : SatF P F cad H Q (fun _ _ _ => False) (d xs cs)) :
    wpAny (model X.prog X.w) A (PySem.call (.ref fa) args kw) (EP X pins σ Q) E s := by
  have e := I.env0
  refine wpAny_call (codeAny_mono (T.run A X.stack s H ⟨args, kw⟩ us vs Q (fun _ _ _ => False) hr hg ⟨by rw [hA]; exact e.frames, e.mod, e.bs, e.bsz, e.funs, e.frf, e.hok, e.bare⟩ hb r hl ⟨F, cad, cs, xs, rc, rs, h⟩) fun o s' q => ?_)
  rcases o with er | fl
  · obtain ⟨_, _, _, _, _, _, _, _, _, _, _, _, z⟩ := q
    exact z.elim
  · cases fl <;> first | exact q.elim | exact I.after q
/-- its answer is a text -/
def callT (d : DF) (xs : List SV) : DE := bindE (callN d xs) fun x => match x with
  | .pv (.str y) => retE (.pv (.str y))
  | _ => badE
theorem callT_ok {F H : Hp} {cad : List Addr} {e : StE} {σ : L2.St} {Q : VK} {xs : List SV} {vs : List V} (r : Rel P F cad e σ H) (s : RepSs P F cad xs vs) (a : At P (RepS P) W (callT d xs) F cad e σ H Q) :
    ∃ F cad cs ys, RelC P F cad cs H ∧ RepSs P F cad ys vs ∧ SatF P F cad H (fun v H' => ∃ y, v = .str y ∧ Q (.str y) H') (fun _ _ _ => False) (d ys cs) := by
  refine callN_ok (W := W) (σ := σ) (e := e) r s ((At.bind (R := RepS P) a).mono fun v H1 ⟨F1, cad1, x, e1, b, r1, s1, a1⟩ => ?_)
  dsimp only at a1
  split at a1
  · cases s1
    exact ⟨_, rfl, At.ret r1 a1 rfl⟩
  · exact a1.elim
def oOwn1 (c : Nat) (d : DF) (rest : List SV → DE) : List SV → DE := fun xs => match xs with
  | [.pv (.ins c' ps)] => if c' = c then callT d [.pv (.ins c' ps)] else rest xs
  | xs => rest xs
theorem own1 {f : Value} {rest : List SV → DE} (hT : P.T c = some ci) (hrest : CallSn X P W f rest)
    (own : ∀ (pins : List (Addr × Obj)) (s : Shared) (σ : L2.St) (H : Hp) (a : Addr) (dx : Addr) (fs : List (Str × V)) (Q : VK), Inv X pins σ H s → H a = some (.ins ci.C dx fs) → (∃ F cad cs ys, RelC P F cad cs H ∧ RepSs P F cad ys [.ref a] ∧ SatF P F cad H (fun v H' => ∃ y, v = .str y ∧ Q (.str y) H') (fun _ _ _ => False) (d ys cs)) →
      wpAny (model X.prog X.w) X.A (call f [.ref a]) (EP X pins σ Q) X.xe s) : CallSn X P W f (oOwn1 c d rest) := by
  intro pins s σ H vs us Q I rv ⟨F, cad, e, xs, r, rs, a⟩
  unfold oOwn1 at a
  split at a
  · rename_i c' ps
    split at a
    · rename_i hc
      subst hc
      obtain ⟨v, rfl, s1⟩ := reps1 rs
      have s1c := s1
      obtain ⟨b, ci', dx, vs', rfl, h1, h2, h3, h4⟩ := s1c
      rw [hT] at h1
      cases h1
      obtain ⟨u, rfl, ru⟩ := vals1 rv
      cases (show u = Value.ref b from ru)
      exact own pins s σ H b dx _ Q I (r.c.sub _ _ h2) (callT_ok r rs a)
    · exact hrest pins s σ H vs us Q I rv ⟨F, cad, e, _, r, rs, a⟩
  · exact hrest pins s σ H vs us Q I rv ⟨F, cad, e, _, r, rs, a⟩
theorem str_back {pins : List (Addr × Obj)} {σ : L2.St} {s : Shared} {Q : VK} {A : Around} {v : Value} (h : wpAny (model X.prog X.w) A (PySem.call (.ref fa) [v]) (EP X pins σ fun v H' => ∃ y, v = .str y ∧ Q (.str y) H') X.xe s) :
    wpAny (model X.prog X.w) A (PySem.call (.ref fa) [v]) (PySem.W.StrBack (EP X pins σ Q)) X.xe s := by
  refine wpAny_mono h (fun u s' z => ?_) fun _ _ z => z
  obtain ⟨w', H', I', rz, y, rfl, q⟩ := z
  obtain ⟨t, rfl⟩ := rz
  exact ⟨.str y, H', I', ⟨t, rfl⟩, q⟩
theorem cs_str {rest : List SV → DE} (hT : P.T c = some ci) (hs : PySem.W.findIn X.K (.ref ci.C) "__str__" = some (some (.ref fa))) (hf : PySem.W.isFn X.K (.ref fa) = true) (T : FnD X.prog X.w X.K X.mg X.base P k g fa fd ps d) (hr : Room (k + 2) X.A) (hg : g = true → X.A.guards = some []) (hb : Binds X.K fd ps []) (hl : ps.length = 1)
    (hrest : CallSn X P W (.type "str") rest) : CallSn X P W (.type "str") (oOwn1 c d rest) := by
  refine own1 hT hrest fun pins s σ H a dx fs Q I ha ⟨F, cad, cs, ys, rc, rs, hsat⟩ => ?_
  obtain ⟨od, J⟩ := inst_of I ha
  have hr2 : Room k X.A.in1.in1 := Room.in1 (Room.in1 hr)
  exact PySem.W.kso_call hr2.units0 I.kIn J hs hf (str_back (T.callAN (A := X.A.in1.in1) (vs := [.ref a]) (us := [.ref a]) (kw := []) rfl hr2 hg I (by have := hb s [.ref a] I.kIn (by simp [hl]); simpa using this) (.cons rfl .nil) (by simp [hl]) rc rs hsat))
theorem cs_repr {rest : List SV → DE} (hT : P.T c = some ci) (hs : PySem.W.findIn X.K (.ref ci.C) "__repr__" = some (some (.ref fa))) (hf : PySem.W.isFn X.K (.ref fa) = true) (T : FnD X.prog X.w X.K X.mg X.base P k g fa fd ps d) (hr : Room (k + 1) X.A) (hg : g = true → X.A.guards = some []) (hb : Binds X.K fd ps []) (hl : ps.length = 1)
    (hrest : CallSn X P W (.builtin "repr") rest) : CallSn X P W (.builtin "repr") (oOwn1 c d rest) := by
  refine own1 hT hrest fun pins s σ H a dx fs Q I ha ⟨F, cad, cs, ys, rc, rs, hsat⟩ => ?_
  obtain ⟨od, J⟩ := inst_of I ha
  obtain ⟨m, hF⟩ := I.fr
  exact PySem.W.repr_K hr.in1.units0 hF I.ok.mod.kin J hs hf (str_back (T.callAN (A := X.A.in1) (vs := [.ref a]) (us := [.ref a]) (kw := []) rfl hr.in1 hg I (by have := hb s [.ref a] I.kIn (by simp [hl]); simpa using this) (.cons rfl .nil) (by simp [hl]) rc rs hsat))
end
/-! ### repr of lists, tuples of plain values -/
mutual
def pdOf : PV → Option PyData
  | .non => some .none
  | .bl b => some (.bool b)
  | .int i => some (.int i)
  | .str z => some (.str z)
  | .tup ps => (pdsOf ps).map .tuple
  | .lst ps => (pdsOf ps).map .list
  | .fz ps => (pdsOf ps).map .list
  | .ins _ _ => none
  | .any => none
def pdsOf : List PV → Option (List PyData)
  | [] => some []
  | p :: ps => match pdOf p, pdsOf ps with
    | some d, some ds => some (d :: ds)
    | _, _ => none
end
mutual
theorem pdOf_dp {F : Hp} : ∀ {p : PV} {v : V} {d : PyData}, Rep P F p v → pdOf p = some d → Dp P.K F v d
  | .non, v, d, h, e => by cases e; cases h; exact .non
  | .bl b, v, d, h, e => by cases e; cases h; exact .bl _
  | .int i, v, d, h, e => by cases e; cases h; exact .int _
  | .str z, v, d, h, e => by cases e; cases h; exact .str _
  | .tup ps, v, d, h, e => by
    obtain ⟨a, vs, rfl, h1, h2⟩ := h
    unfold pdOf at e
    cases q : pdsOf ps with
    | none => rw [q] at e; cases e
    | some ds => rw [q] at e; cases e; exact .tup h1 (pdsOf_dp h2 q)
  | .lst ps, v, d, h, e => by
    obtain ⟨a, vs, rfl, h1, h2⟩ := h
    unfold pdOf at e
    cases q : pdsOf ps with
    | none => rw [q] at e; cases e
    | some ds => rw [q] at e; cases e; exact .lst (.inl (.inl h1)) (pdsOf_dp h2 q)
  | .fz ps, v, d, h, e => by
    obtain ⟨a, vs, rfl, h1, h2⟩ := h
    unfold pdOf at e
    cases q : pdsOf ps with
    | none => rw [q] at e; cases e
    | some ds => rw [q] at e; cases e; exact .lst h1 (pdsOf_dp h2 q)
  | .ins _ _, v, d, h, e => by unfold pdOf at e; cases e
  | .any, v, d, h, e => by unfold pdOf at e; cases e
theorem pdsOf_dp {F : Hp} : ∀ {ps : List PV} {vs : List V} {ds : List PyData}, Reps P F ps vs → pdsOf ps = some ds → DpAll P.K F vs ds
  | [], vs, ds, h, e => by cases h; unfold pdsOf at e; cases e; exact .nil
  | p :: ps, vs, ds, h, e => by
    obtain ⟨v, r, rfl, h1, h2⟩ := h
    unfold pdsOf at e
    split at e
    · rename_i d ds' q1 q2
      cases e
      exact .cons (pdOf_dp h1 q1) (pdsOf_dp h2 q2)
    · cases e
end
def oReprL (rest : List SV → DE) : List SV → DE := fun xs => match xs with
  | [.pv (.lst ps)] => match pdOf (.lst ps) with
    | some d => if d.showable = true ∧ d.hasDict = false ∧ d.depth ≤ 60 ∧ d.shown.length ≤ 16777216 then retE (.pv (.str d.shown)) else badE
    | none => rest xs
  | [.pv (.int i)] => if i.natAbs.log2 < 1920 then retE (.pv (.str (toString i))) else badE
  | xs => rest xs
theorem dp_le {K : PySem.W.Frag} {F H : Hp} (l : Le F H) {v : V} {d : PyData} (h : Dp K F v d) : Dp K H v d := by
  refine Dp.rec (motive_1 := fun v d _ => Dp K H v d) (motive_2 := fun vs ds _ => DpAll K H vs ds) .non (fun b => .bl b) (fun i => .int i) (fun x => .str x) (fun h _ ih => .lst (SqL.le l h) ih) (fun h _ ih => .tup (SqT.le l h) ih) .nil (fun _ _ ih1 ih2 => .cons ih1 ih2) h
theorem cs_reprL {rest : List SV → DE} (hK : X.K = P.K) (hg : X.A.guards = some []) (hu : X.A.units + 64 < cLine) (hrest : CallSn X P W (.builtin "repr") rest) : CallSn X P W (.builtin "repr") (oReprL rest) := by
  intro pins s σ H vs us Q I rv ⟨F, cad, e, xs, r, rs, a⟩
  unfold oReprL at a
  split at a
  · rename_i ps
    split at a
    · rename_i d hd
      split at a
      · rename_i hh
        obtain ⟨h1, h2, h3, h4⟩ := hh
        obtain ⟨v, rfl, s1⟩ := reps1 rs
        have s1c := s1
        obtain ⟨b, ws, rfl, h5, h6⟩ := s1c
        obtain ⟨u, rfl, ru⟩ := vals1 rv
        cases (show u = Value.ref b from ru)
        have dp := dp_le r.c.sub (pdOf_dp s1 hd)
        rw [← hK] at dp
        obtain ⟨as, hr⟩ := Dp.reads I d _ _ dp rfl
        exact repr_of_reads' hr h1 (PyData.noDict_hsm h2) hg (by omega) (fun _ _ z => z) (fun h' u tk k => ⟨.str _, H, I.kept k, ⟨_, rfl⟩, At.ret r a rfl⟩) (by rw [sizeLine_eq]; exact h4)
      · exact a.elim
    · exact hrest pins s σ H vs us Q I rv ⟨F, cad, e, _, r, rs, a⟩
  · split at a
    · rename_i hz
      obtain ⟨v, rfl, s1⟩ := reps1 rs
      cases s1
      exact SkE.call_repr_int pins s σ H _ us Q I rv ⟨_, rfl, hz, At.ret r a rfl⟩
    · exact a.elim
  · exact hrest pins s σ H vs us Q I rv ⟨F, cad, e, _, r, rs, a⟩
def badL : List SV → DE := fun _ => badE
theorem cs_bad {f : Value} : CallSn X P W f badL := by
  intro pins s σ H vs us Q I rv ⟨F, cad, e, xs, r, rs, a⟩
  exact a.elim
end
end Sh
namespace Sh
open PySem PySem.Spec PyProof.Rows L2
/-! # Targets, lists that change -/
def SatG (P : Pr) (W : WX) (F : Hp) (cad : List Addr) (H : Hp) (Q : L2.St → Hp → Prop) : Out Unit → Prop
  | .ok _ e' => ∀ σ' H', (∃ F' cad', Ext F cad H F' cad' H' ∧ Rel P F' cad' e' σ' H') → Q σ' H'
  | .exc c fs e' => ∀ cls dx σ' H', (∃ F' cad', Ext F cad H F' cad' H' ∧ Rel P F' cad' e' σ' H' ∧ RepX P F' c fs cls dx) → W cls dx σ' H'
  | .bad => False
abbrev DG := SV → StE → Out Unit
abbrev DGs := List SV → StE → Out Unit
def SnG (X : Cx) (P : Pr) (W : WX) (tg : Expr) (g : DG) : Prop := PG X tg fun v σ H Q => ∃ F cad e x, Rel P F cad e σ H ∧ RepS P F cad x v ∧ SatG P W F cad H Q (g x e)
def SnGs (X : Cx) (P : Pr) (W : WX) (ts : List Expr) (g : DGs) : Prop := PGs X ts fun vs σ H Q => ∃ F cad e xs, Rel P F cad e σ H ∧ RepSs P F cad xs vs ∧ SatG P W F cad H Q (g xs e)
theorem PG.imp {X : Cx} {x : Expr} {t t' : TG} (h : PG X x t) (i : ∀ v σ H Q, t' v σ H Q → t v σ H Q) : PG X x t' := ⟨fun pins s σ H v u Q I r q => h.run pins s σ H v u Q I r (i v σ H Q q)⟩
theorem PGs.imp {X : Cx} {x : List Expr} {t t' : TGs} (h : PGs X x t) (i : ∀ v σ H Q, t' v σ H Q → t v σ H Q) : PGs X x t' := ⟨fun pins s σ H v u Q I r q => h.run pins s σ H v u Q I r (i v σ H Q q)⟩
section
variable {P : Pr} {W : WX} {F F1 H H1 : Hp} {cad cad1 : List Addr} {σ : L2.St} {e : StE}
theorem SatG.ext {o : Out Unit} {Q : L2.St → Hp → Prop} (a : Ext F cad H F1 cad1 H1) (h : SatG P W F cad H Q o) : SatG P W F1 cad1 H1 Q o := by
  cases o with
  | ok f e' => exact fun v H' ⟨F', cad', b, q⟩ => h v H' ⟨F', cad', a.trans b, q⟩
  | exc c fs e' => exact fun cls dx σ' H' ⟨F', cad', b, q⟩ => h cls dx σ' H' ⟨F', cad', a.trans b, q⟩
  | bad => exact h
/-- expressions ahead of a store -/
theorem SatG.bind {α β : Type} {R : RG α β} {d : StE → Out α} {k : α → StE → Out Unit} {Q : L2.St → Hp → Prop} (h : SatG P W F cad H Q (bindE d k e)) :
    At P R W d F cad e σ H (fun v H1 => ∃ F1 cad1 x e1, Ext F cad H F1 cad1 H1 ∧ Rel P F1 cad1 e1 σ H1 ∧ R F1 cad1 x v ∧ SatG P W F1 cad1 H1 Q (k x e1)) := by
  unfold bindE at h
  unfold At
  cases q : d e with
  | ok x e' =>
    rw [q] at h
    intro v H' ⟨F', cad', b, r, s⟩
    exact ⟨F', cad', x, e', b, r, s, SatG.ext b h⟩
  | exc c fs e' =>
    rw [q] at h
    exact fun cls dx H' ⟨F', cad', b, r, s⟩ => h cls dx σ H' ⟨F', cad', b, r, s⟩
  | bad => rw [q] at h; exact h
end
section
variable {X : Cx} {P : Pr} {W : WX} {pos : Pos}
def gSet (i : Nat) : DG := fun x e => .ok () (setSl i x e)
theorem sng_name {i : Nat} {x : Str} (hN : X.N.Nodup) (hi : X.N[i]? = some x) (hx : Loc X.env.scope x) (hf : X.fn x = true ∨ X.env.scope.names.lookup x = some .local := by first | exact .inl rfl | exact .inr rfl | assumption) : SnG X P W (.Name x pos) (gSet i) :=
  PG.imp (pg_name hN hi hx hf) fun v σ H Q ⟨F, cad, e, x, r, s, h⟩ => h (σ.set i (some v)) H ⟨F, cad, Ext.refl _ _ _, r.set i s⟩
def gsNil : DGs := fun xs e => match xs with
  | [] => .ok () e
  | _ => .bad
def gsCons (g : DG) (gs : DGs) : DGs := fun xs e => match xs with
  | x :: r => match g x e with
    | .ok _ e' => gs r e'
    | .exc c fs e' => .exc c fs e'
    | .bad => .bad
  | _ => .bad
theorem sngs_nil : SnGs X P W [] gsNil := PGs.imp pgs_nil fun vs σ H Q ⟨F, cad, e, xs, r, s, h⟩ => by
  cases s with
  | nil => exact ⟨rfl, h σ H ⟨F, cad, Ext.refl _ _ _, r⟩⟩
  | cons _ _ => exact h.elim
theorem sngs_cons {e : Expr} {es : List Expr} {g : DG} {gs : DGs} (h1 : SnG X P W e g) (h2 : SnGs X P W es gs)
    (hs : (assignEach (e :: es) X.env).map (·.2) = assign e X.env :: (assignEach es X.env).map (·.2) := by rfl) : SnGs X P W (e :: es) (gsCons g gs) := PGs.imp (pgs_cons h1 h2 hs) fun vs σ H Q ⟨F, cad, e, xs, r, s, h⟩ => by
  cases s with
  | nil => exact h.elim
  | @cons x v xs vs s1 s2 =>
    refine ⟨v, vs, rfl, F, cad, e, x, r, s1, ?_⟩
    have h : SatG P W F cad H Q (match g x e with
      | .ok _ e' => gs xs e'
      | .exc c fs e' => .exc c fs e'
      | .bad => .bad) := h
    cases q : g x e with
    | ok u e' =>
      rw [q] at h
      exact fun σ' H' ⟨F', cad', b, r'⟩ => ⟨F', cad', e', xs, r', s2.le b.le b.pre, SatG.ext b h⟩
    | exc c fs e' => rw [q] at h; exact h
    | bad => rw [q] at h; exact h
def gTupD (n : Nat) (gs : DGs) : DG := fun x => match x with
  | .pv (.tup ps) => if ps.length = n then gs (ps.map .pv) else fun _ => .bad
  | _ => fun _ => .bad
theorem sng_tup {es : List Expr} {k : Nat} {gs : DGs} {n : Nat} (hK : X.K = P.K) (hc : X.calm = true) (h : SnGs X P W es gs)
    (hn : (assignEach es X.env).length = n := by rfl) (hst : (assignEach es X.env).findIdx? (·.1) = none := by rfl) : SnG X P W (.Tuple es k pos) (gTupD n gs) := PG.imp (pg_tup hc h hn hst) fun v σ H Q ⟨F, cad, e, x, r, s, h⟩ => by
  unfold gTupD at h
  split at h
  · rename_i ps
    split at h
    · rename_i hl
      obtain ⟨a, vs, rfl, h1, h2⟩ := s
      exact ⟨a, vs, rfl, by rw [hK]; exact SqT.le r.c.sub h1, by rw [← h2.length]; exact hl, F, cad, e, _, r, reps_pvs h2, h⟩
    · exact h.elim
  · exact h.elim
/-- x[i] = v of a list that changes -/
def setIt (o i x : SV) : StE → Out Unit := fun e => match o, i with
  | .cell k, .pv (.int i) => match e.cs[k]? with
    | some (some (.l zs)) => match ixN zs.length i with
      | some j => .ok () { e with cs := e.cs.set k (some (.l (zs.set j x))) }
      | none => .bad
    | _ => .bad
  | _, _ => .bad
theorem Rel.putl {F H : Hp} {cad : List Addr} {e : StE} {σ : L2.St} (r : Rel P F cad e σ H) {k : Nat} {zs ys : List SV} {a : Addr} {vs : List V} (hk : e.cs[k]? = some (some (.l zs))) (ha : cad[k]? = some a) (hf : F a = none) (hv : RepSs P F cad ys vs) :
    Rel P F cad { e with cs := e.cs.set k (some (.l ys)) } σ (upd H a (.lst vs)) := ⟨r.c.put hk ha hf ⟨vs, upd_same, hv⟩, r.sl, r.slot⟩
def gSubD (do_ di : DE) : DG := fun x => bindE do_ fun o => bindE di fun i => setIt o i x
theorem sng_sub {o i : Expr} {do_ di : DE} (ho : Sn X P W o do_) (hi : Sn X P W i di)
    (ha : ∀ v, assign (.Subscript o i pos) X.env v = (do
      let ov ← holding [v] (eval o X.env)
      let iv ← holding [v, ov] (eval i X.env)
      standAt pos
      holding [v, ov, iv] (setItem ov iv v)
      release [v, ov, iv] []) := by intro _; rfl) : SnG X P W (.Subscript o i pos) (gSubD do_ di) := PG.imp (pg_sub ho hi set_list ha) fun v σ H Q ⟨F, cad, e, x, r, s, h⟩ => by
  refine At.rd r ((SatG.bind (σ := σ) (R := RepS P) h).mono fun ov H1 ⟨F1, cad1, so, e1, b1, r1, s1, a1⟩ => ?_)
  refine At.rd r1 ((SatG.bind (σ := σ) (R := RepS P) a1).mono fun iv H2 ⟨F2, cad2, si, e2, b2, r2, s2, a2⟩ => ?_)
  have s1 := s1.le b2.le b2.pre
  have s := (s.le b1.le b1.pre).le b2.le b2.pre
  unfold setIt at a2
  split at a2
  · split at a2
    · rename_i zs hk
      split at a2
      · rename_i j hj
        obtain ⟨a, h1, rfl⟩ := s1
        cases s2
        obtain ⟨a', h3, h4, vs, h5, h6⟩ := r2.c.cell _ _ hk
        rw [h1] at h3
        cases h3
        exact ⟨a, vs, _, j, rfl, rfl, h5, by rw [← h6.length]; exact hj, a2 σ _ ⟨F2, cad2, Ext.put h1, r2.putl hk h1 h4 (h6.set s j)⟩⟩
      · exact a2.elim
    · exact a2.elim
  · exact a2.elim
def sAsg (da : DE) (g : DG) : DS := thenS da fun x e => match g x e with
  | .ok _ e' => .ok .nx e'
  | .exc c fs e' => .exc c fs e'
  | .bad => .bad
theorem sns_asg {tg e : Expr} {da : DE} {g : DG} (he : Sn X P W e da) (hg : SnG X P W tg g) (hs : swapsWithSole [tg] e pos.line X.env = pure false := by rfl) (hw : swappedStores [tg] e X.env = pure none := by rfl)
    (h1 : (assignEach [tg] X.env).map (·.2) = [assign tg X.env] := by rfl) : SnS X P W (.Assign [tg] e pos) (sAsg da g) := PS.imp (ps_asg he hg hs hw h1) fun D σ H h => by
  obtain ⟨F, cad, e, r, h⟩ := h
  refine At.rd r ((AtS.bind (R := RepS P) h).mono fun v H1 ⟨F1, cad1, x, e1, b, r1, s1, a1⟩ => ⟨F1, cad1, e1, x, r1, s1, ?_⟩)
  unfold AtS at a1
  dsimp only at a1
  cases q : g x e1 with
  | ok u e' => rw [q] at a1; exact a1
  | exc c fs e' => rw [q] at a1; exact a1
  | bad => rw [q] at a1; exact a1
/-- a, b = x, y -/
def sPar (i j : Nat) (das : StE → Out (List SV)) : DS := thenS das fun xs e => match xs with
  | [x, y] => .ok .nx (setSl j y (setSl i x e))
  | _ => .bad
theorem sns_par {i j : Nat} {x y : Str} {a b : Expr} {das : StE → Out (List SV)} {px py pt : Pos} {kt k2 pt2} (hc : X.calm = true) (hN : X.N.Nodup) (hi : X.N[i]? = some x) (hj : X.N[j]? = some y) (hij : i ≠ j)
    (hx : X.env.scope.names.lookup x = some .local) (hy : X.env.scope.names.lookup y = some .local) (ha : SnA X P W [a, b] das)
    (hw : swappedStores [.Tuple [.Name x px, .Name y py] kt pt] (.Tuple [a, b] k2 pt2) X.env = pure (some [x, y]))
    (hs : swapsWithSole [.Tuple [.Name x px, .Name y py] kt pt] (.Tuple [a, b] k2 pt2) pos.line X.env = pure false := by rfl) :
    SnS X P W (.Assign [.Tuple [.Name x px, .Name y py] kt pt] (.Tuple [a, b] k2 pt2) pos) (sPar i j das) := PS.imp (ps_par hc hN hi hj hij hx hy ha hw hs) fun D σ H h => by
  obtain ⟨F, cad, e, r, h⟩ := h
  refine At.rd r ((AtS.bind (R := RepSs P) h).mono fun vs H1 ⟨F1, cad1, xs, e1, b, r1, s1, a1⟩ => ?_)
  unfold AtS at a1
  dsimp only at a1
  split at a1
  · obtain ⟨v, u, rfl, h1, h2⟩ := reps2 s1
    exact ⟨v, u, rfl, a1 _ H1 ⟨F1, cad1, Ext.refl _ _ _, (r1.set i h1).set j h2⟩⟩
  · exact a1.elim
/-! ### methods of lists that change -/
def oApp : SV → List SV → DE := fun x xs e => match x, xs with
  | .cell k, [y] => match e.cs[k]? with
    | some (some (.l zs)) => if zs.length < 16777216 then .ok (.pv .non) { e with cs := e.cs.set k (some (.l (zs ++ [y]))) } else .bad
    | _ => .bad
  | _, _ => .bad
def isLc (cs : Cs) : SV → Bool
  | .cell k => match cs[k]? with
    | some (some (.l _)) => true
    | _ => false
  | _ => false
def dBM (o : SV → List SV → DE) (da : DE) (das : StE → Out (List SV)) : DE := bindE da fun x e => if isLc e.cs x = true then bindE das (fun xs => o x xs) e else .bad
theorem sn_append {o e : Expr} {da : DE} {das : StE → Out (List SV)} {apos cpos : Pos} (ho : Sn X P W o da) (ha : SnA X P W [e] das)
    (hbase : attributeBase o "append" X.env (eval o X.env) = eval o X.env := by rfl)
    (hfew : ((backTo cpos (starEach (e :: []) X.env)).all (fun x => !x.1) && (backToKw cpos (keywordEach [] X.env)).all (fun x => x.1.isSome)
      && decide ((e :: []).length + ([] : List Keyword).length + (if ([] : List Keyword).isEmpty then 0 else 1) < 30)) = true := by rfl)
    (hline : (apos.endLine == cpos.line) = true := by rfl) (hs : starEach (e :: []) X.env = (false, eval e X.env) :: starEach [] X.env := by rfl) (hplain : (backTo cpos (starEach [] X.env)).any (·.1) = false := by rfl) :
    Sn X P W (.Call (.Attribute o "append" apos) [e] [] cpos) (dBM oApp da das) := by
  refine PE.imp (pe_bm PySem.F.plainAttrs_list PySem.F.slot_list_append rfl mt_append ho ha hbase hfew hline hs hplain) fun σ H Q h => ?_
  obtain ⟨F, cad, st, r, h⟩ := h
  refine At.rd r ((At.bind (R := RepS P) h).mono fun v H1 ⟨F1, cad1, x, e1, b, r1, s1, a1⟩ => ?_)
  unfold At at a1
  dsimp only at a1
  split at a1
  · rename_i hx
    have ty : tyV X.K "list" v H1 := by
      unfold isLc at hx
      split at hx
      · split at hx
        · rename_i hk
          obtain ⟨a, h1, rfl⟩ := s1
          obtain ⟨a', h3, h4, vs, h5, h6⟩ := r1.c.cell _ _ hk
          rw [h1] at h3
          cases h3
          exact .inl ⟨rfl, vs, .inl (.inl h5)⟩
        · cases hx
      · cases hx
    refine ⟨ty, At.rd r1 ((At.bind (R := RepSs P) a1).mono fun us H2 ⟨F2, cad2, xs, e2, b2, r2, s2, a2⟩ => ?_)⟩
    have s1 := s1.le b2.le b2.pre
    unfold At oApp at a2
    dsimp only at a2
    split at a2
    · split at a2
      · rename_i zs hk
        split at a2
        · rename_i hz
          obtain ⟨a, h1, rfl⟩ := s1
          obtain ⟨a', h3, h4, vs, h5, h6⟩ := r2.c.cell _ _ hk
          rw [h1] at h3
          cases h3
          obtain ⟨u, rfl, hu⟩ := reps1 s2
          exact ⟨a, vs, u, rfl, rfl, h5, by rw [sizeLine_eq, ← h6.length]; exact hz, a2 _ _ ⟨F2, cad2, Ext.put h1, r2.putl hk h1 h4 (h6.append (.cons hu .nil)), rfl⟩⟩
        · exact a2.elim
      · exact a2.elim
    · exact a2.elim
  · exact a1.elim
/-! ### from here on it doesn't change: it is read as a value -/
def thaw (k : Nat) (ps : List PV) : Option SV → Option SV
  | some (.cell j) => if j = k then some (.pv (.lst ps)) else some (.cell j)
  | x => x
def frz (x : SV) : DE := fun e => match x with
  | .cell k => match e.cs[k]? with
    | some (some (.l zs)) => match pvs zs with
      | some ps => .ok (.pv (.lst ps)) ⟨e.sl.map (thaw k ps), e.cs.set k none⟩
      | none => .bad
    | _ => .bad
  | x => .ok x e
def dFrz (da : DE) : DE := bindE da frz
theorem Rel.frz {F H : Hp} {cad : List Addr} {e : StE} {σ : L2.St} (r : Rel P F cad e σ H) {k : Nat} {zs : List SV} {ps : List PV} {a : Addr} {vs : List V} (hk : e.cs[k]? = some (some (.l zs))) (ha : cad[k]? = some a) (hf : F a = none) (hh : H a = some (.lst vs)) (hv : Reps P F ps vs) :
    Le F (upd F a (.lst vs)) ∧ Ext F cad H (upd F a (.lst vs)) cad H ∧ Rel P (upd F a (.lst vs)) cad ⟨e.sl.map (thaw k ps), e.cs.set k none⟩ σ H ∧ Rep P (upd F a (.lst vs)) (.lst ps) (.ref a) := by
  have l : Le F (upd F a (.lst vs)) := fun b o hb => by
    rw [upd_ne (fun z => by subst z; rw [hf] at hb; cases hb)]
    exact hb
  have rp : Rep P (upd F a (.lst vs)) (.lst ps) (.ref a) := ⟨a, vs, rfl, upd_same, hv.le l⟩
  refine ⟨l, ⟨l, List.prefix_refl _, fun b hb hn => absurd hb hn, fun b o hb _ => hb, fun b o hb => ?_⟩, ⟨⟨fun b o hb => ?_, r.c.nd, by simp [r.c.len], r.c.at_, fun i cc hi => ?_⟩, by simp [r.sl], fun i x hi => ?_⟩, rp⟩
  · by_cases z : b = a
    · subst z
      exact .inr (.inr (List.mem_of_getElem? ha))
    · rw [upd_ne z] at hb
      exact .inl hb
  · by_cases z : b = a
    · subst z
      rw [upd_same] at hb
      rw [hh]
      exact hb
    · rw [upd_ne z] at hb
      exact r.c.sub b o hb
  · have hi : (e.cs.set k none)[i]? = some (some cc) := hi
    by_cases q : k = i
    · subst q
      rw [List.getElem?_set_self (List.getElem?_eq_some_iff.mp hk).1] at hi
      cases hi
    · rw [List.getElem?_set_ne q] at hi
      obtain ⟨b, h1, h2, h3⟩ := r.c.cell i cc hi
      refine ⟨b, h1, ?_, h3.le l (List.prefix_refl _) fun _ z => z⟩
      rw [upd_ne (fun z => by subst z; exact q (nd_ix r.c.nd ha h1))]
      exact h2
  · have hi : (e.sl.map (thaw k ps))[i]? = some (some x) := hi
    rw [List.getElem?_map] at hi
    cases q : e.sl[i]? with
    | none => rw [q] at hi; cases hi
    | some y =>
      rw [q] at hi
      have hi : thaw k ps y = some x := Option.some.inj hi
      unfold thaw at hi
      split at hi
      · rename_i j
        obtain ⟨v, h1, h2⟩ := r.slot i _ q
        split at hi
        · rename_i ej
          cases hi
          subst ej
          obtain ⟨b, h3, rfl⟩ := h2
          rw [ha] at h3
          cases h3
          exact ⟨_, h1, rp⟩
        · cases hi
          exact ⟨v, h1, h2⟩
      · subst hi
        obtain ⟨v, h1, h2⟩ := r.slot i _ q
        exact ⟨v, h1, h2.le l (List.prefix_refl _)⟩
theorem sn_frz {e : Expr} {da : DE} (ha : Sn X P W e da) : Sn X P W e (dFrz da) := by
  refine PE.imp ha fun σ H Q h => ?_
  obtain ⟨F, cad, st, r, h⟩ := h
  refine At.rd r ((At.bind (R := RepS P) h).mono fun v H1 ⟨F1, cad1, x, e1, b, r1, s1, a1⟩ => ?_)
  unfold At Sh.frz at a1
  split at a1
  · split at a1
    · rename_i zs hk
      split at a1
      · rename_i ps hps
        obtain ⟨a, h1, rfl⟩ := s1
        obtain ⟨a', h3, h4, vs, h5, h6⟩ := r1.c.cell _ _ hk
        rw [h1] at h3
        cases h3
        obtain ⟨l, x, r2, rp⟩ := r1.frz hk h1 h4 h5 (pvs_reps h6 hps)
        exact a1 _ _ ⟨_, cad1, x, r2, rp⟩
      · exact a1.elim
    · exact a1.elim
  · exact a1 v H1 ⟨F1, cad1, Ext.refl _ _ _, r1, s1⟩
end
end Sh
namespace Sh
open PySem PySem.Spec PyProof.Rows L2
/-! # Loops -/
/-- J walks the values ps -/
structure ItW (P : Pr) (J : It) (F : Hp) (ps : List PV) : Prop where
  go : ∀ i H, Le F H → i < ps.length → J.go i H
  yld : ∀ i p H x H', Le F H → ps[i]? = some p → J.yld i H x H' → (H' = H ∧ Rep P F p x) ∨ ∃ a o, H a = none ∧ H' = L2.upd H a o ∧ Rep P (L2.upd F a o) p x
  stop : ∀ i H, Le F H → ps.length ≤ i → J.stop i H
def RItW (P : Pr) : RG (List PV) It := fun F _ ps J => ItW P J F ps
def SnI (X : Cx) (P : Pr) (W : WX) (tg iter : Expr) (d : StE → Out (List PV)) : Prop := PI X tg iter (Rd P (RItW P) W d)
theorem PI.imp {X : Cx} {tg x : Expr} {t t' : TI} (h : PI X tg x t) (i : ∀ σ H Q, t' σ H Q → t σ H Q) : PI X tg x t' := ⟨fun pins s σ H R I q => h.run pins s σ H R I (i σ H R q)⟩
theorem upd_le {F F1 : Hp} {a : Addr} {o : HO} (l : Le F F1) : Le (L2.upd F a o) (L2.upd F1 a o) := fun b u h => by
  by_cases z : b = a
  · subst z; rw [upd_same] at h ⊢; exact h
  · rw [upd_ne z] at h ⊢; exact l b u h
/-- how a turn ends -/
def loopK (k : DS) : Out Fl → Out Fl
  | .ok .nx e => k e
  | .ok .ct e => k e
  | .ok .bk e => .ok .nx e
  | o => o
def loopF (g : DG) (b : DS) : List PV → DS
  | [] => sNil
  | p :: ps => fun e => match g (.pv p) e with
    | .ok _ e1 => loopK (loopF g b ps) (b e1)
    | .exc c fs e1 => .exc c fs e1
    | .bad => .bad
def sFor (di : StE → Out (List PV)) (g : DG) (b : DS) : DS := thenS di fun ps => loopF g b ps
def whileF (t : StE → Out Bool) (b : DS) : Nat → DS
  | 0 => sBad
  | n + 1 => fun e => match t e with
    | .ok true e1 => loopK (whileF t b n) (b e1)
    | .ok false e1 => .ok .nx e1
    | .exc c fs e1 => .exc c fs e1
    | .bad => .bad
section
variable {X : Cx} {P : Pr} {W : WX} {pos : Pos}
theorem loopK_ok {k b : DS} {F H : Hp} {cad : List Addr} {e : StE} {D : Ends} {N : L2.St → Hp → Prop} (hN : ∀ F' cad' e' σ' H', Ext F cad H F' cad' H' → Rel P F' cad' e' σ' H' → AtS P W k F' cad' e' H' D → N σ' H') (h : SatS P W F cad H D (loopK k (b e))) :
    AtS P W b F cad e H { D with nx := N, ct := N, bk := D.nx } := by
  unfold AtS
  cases q : b e with
  | ok f e' =>
    rw [q] at h
    cases f with
    | nx => exact fun σ' H' ⟨F', cad', x, r⟩ => hN F' cad' e' σ' H' x r (SatS.ext x h)
    | ct => exact fun σ' H' ⟨F', cad', x, r⟩ => hN F' cad' e' σ' H' x r (SatS.ext x h)
    | bk => exact h
    | rt v => exact h
  | exc c fs e' => rw [q] at h; exact h
  | bad => rw [q] at h; exact h
theorem sns_for {tg iter : Expr} {body : List Stmt} {di : StE → Out (List PV)} {g : DG} {b : DS} (hp : PassesOwn (model X.prog X.w) X.A X.env X.xe) (hc : X.calm = true) (hi : SnI X P W tg iter di) (hg : SnG X P W tg g) (hb : SnSs X P W body b)
    (hs : ∀ x, foldedSetIterable iter X.env x = pure x := by intro _; rfl) : SnS X P W (.For tg iter body [] pos) (sFor di g b) := PS.imp (ps_for hp hc hi hg hb hs) fun D σ H h => by
  obtain ⟨F, cad, e, r, h⟩ := h
  refine At.rd r ((AtS.bind (R := RItW P) h).mono fun J H1 ⟨F1, cad1, ps, e1, b1, r1, s1, a1⟩ => ?_)
  refine ⟨fun i m σ H => m = ps.length - i ∧ i ≤ ps.length ∧ ∃ F2 cad2 e2, Le F1 F2 ∧ Rel P F2 cad2 e2 σ H ∧ AtS P W (loopF g b (ps.drop i)) F2 cad2 e2 H D, ⟨ps.length, by simp, Nat.zero_le _, F1, cad1, e1, Le.refl _, r1, a1⟩, ?_⟩
  rintro i m σ2 H2 ⟨rfl, hi', F2, cad2, e2, l2, r2, a2⟩
  have lh : Le F1 H2 := l2.trans r2.c.sub
  by_cases hlt : i < ps.length
  · refine .inr ⟨s1.go i H2 lh hlt, fun σ' H' => ∃ F' cad' e', Le F1 F' ∧ Rel P F' cad' e' σ' H' ∧ AtS P W (loopF g b (ps.drop (i + 1))) F' cad' e' H' D, fun σ' H' q => ⟨ps.length - (i + 1), by omega, rfl, hlt, q⟩, fun x H' y => ?_⟩
    have hp : ps[i]? = some ps[i] := List.getElem?_eq_getElem hlt
    rw [List.drop_eq_getElem_cons hlt] at a2
    have step : ∀ {F3 H3 : Hp}, Ext F2 cad2 H2 F3 cad2 H3 → Rel P F3 cad2 e2 σ2 H3 → Rep P F3 ps[i] x →
        ∃ F cad e sx, Rel P F cad e σ2 H3 ∧ RepS P F cad sx x ∧ SatG P W F cad H3 (fun σ2 H2 => RdS P W b { D with nx := fun σ' H' => ∃ F' cad' e', Le F1 F' ∧ Rel P F' cad' e' σ' H' ∧ AtS P W (loopF g b (ps.drop (i + 1))) F' cad' e' H' D, ct := fun σ' H' => ∃ F' cad' e', Le F1 F' ∧ Rel P F' cad' e' σ' H' ∧ AtS P W (loopF g b (ps.drop (i + 1))) F' cad' e' H' D, bk := D.nx } σ2 H2) (g sx e) := by
      intro F3 H3 x3 r3 s3
      have a3 : AtS P W (loopF g b (ps[i] :: ps.drop (i + 1))) F3 cad2 e2 H3 D := SatS.ext x3 a2
      refine ⟨F3, cad2, e2, .pv ps[i], r3, s3, ?_⟩
      unfold AtS loopF at a3
      cases q : g (.pv ps[i]) e2 with
      | ok u e' =>
        rw [q] at a3
        intro σ' H' ⟨F', cad', x4, r4⟩
        refine ⟨F', cad', e', r4, loopK_ok (fun F5 cad5 e5 σ5 H5 x5 r5 a5 => ⟨F5, cad5, e5, ((l2.trans x3.le).trans x4.le).trans x5.le, r5, a5⟩) (SatS.ext x4 a3)⟩
      | exc c fs e' => rw [q] at a3; exact a3
      | bad => rw [q] at a3; exact a3
    rcases s1.yld i _ H2 x H' lh hp y with ⟨rfl, rp⟩ | ⟨a, o, ha, rfl, rp⟩
    · exact step (Ext.refl _ _ _) r2 (rp.le l2)
    · exact step (Ext.alloc r2.c ha) (r2.alloc ha) (rp.le (upd_le l2))
  · have : i = ps.length := by omega
    subst this
    refine .inl ⟨s1.stop _ H2 lh (Nat.le_refl _), ?_⟩
    rw [List.drop_length] at a2
    exact a2 σ2 H2 ⟨F2, cad2, Ext.refl _ _ _, r2⟩
theorem sns_while {c : Expr} {body : List Stmt} {t : StE → Out Bool} {b : DS} (n : Nat) (hp : PassesOwn (model X.prog X.w) X.A X.env X.xe) (hc : SnT X P W c t) (hb : SnSs X P W body b) : SnS X P W (.While c body [] pos) (whileF t b n) := PS.imp (ps_while hp hc hb) fun D σ H h => by
  obtain ⟨F, cad, e, r, h⟩ := h
  refine ⟨fun m σ H => ∃ F cad e, Rel P F cad e σ H ∧ AtS P W (whileF t b m) F cad e H D, ⟨n, F, cad, e, r, h⟩, ?_⟩
  rintro m σ1 H1 ⟨F1, cad1, e1, r1, a1⟩
  cases m with
  | zero => exact a1.elim
  | succ m =>
    refine At.rd r1 ?_
    unfold AtS whileF at a1
    unfold At
    cases q : t e1 with
    | ok v e2 =>
      rw [q] at a1
      intro u H2 ⟨F2, cad2, b2, r2, s2⟩
      cases s2
      cases v with
      | true =>
        refine ⟨fun σ' H' => ∃ F' cad' e', Rel P F' cad' e' σ' H' ∧ AtS P W (whileF t b m) F' cad' e' H' D, fun σ' H' q => ⟨m, Nat.lt_succ_self _, q⟩, F2, cad2, e2, r2, ?_⟩
        exact loopK_ok (fun F5 cad5 e5 σ5 H5 x5 r5 a5 => ⟨F5, cad5, e5, r5, a5⟩) (SatS.ext b2 a1)
      | false => exact a1 σ1 H2 ⟨F2, cad2, b2, r2⟩
    | exc c fs e2 =>
      rw [q] at a1
      exact fun cls dx H' ⟨F', cad', x⟩ => a1 cls dx σ1 H' ⟨F', cad', x⟩
    | bad => rw [q] at a1; exact a1
/-! ### what is walked -/
theorem itw_list {F : Hp} {K : PySem.W.Frag} (hK : K = P.K) {a : Addr} {ps : List PV} {vs : List V} (h : ∀ H, Le F H → SqL K H a vs) (r : Reps P F ps vs) (uniq : ∀ H xs, Le F H → SqL K H a xs → True := by intros; trivial) : ItW P (Itl K a) F ps := by
  refine ⟨fun i H l hi => ?_, fun i p H x H' l hp y => ?_, fun i H l hi => ⟨vs, h H l, by rw [← r.length]; exact hi⟩⟩
  · have : i < vs.length := by rw [← r.length]; exact hi
    exact ⟨vs, vs[i], h H l, List.getElem?_eq_getElem this⟩
  · obtain ⟨rfl, y⟩ := y
    obtain ⟨v, h1, h2⟩ := r.get hp
    have := y vs (h _ l)
    rw [h1] at this
    cases this
    exact .inl ⟨rfl, h2⟩
theorem itw_tup {F : Hp} {K : PySem.W.Frag} {a : Addr} {ps : List PV} {vs : List V} (h : ∀ H, Le F H → SqT K H a vs) (r : Reps P F ps vs) : ItW P (Itt K a) F ps := by
  refine ⟨fun i H l hi => ?_, fun i p H x H' l hp y => ?_, fun i H l hi => ⟨vs, h H l, by rw [← r.length]; exact hi⟩⟩
  · have : i < vs.length := by rw [← r.length]; exact hi
    exact ⟨vs, vs[i], h H l, List.getElem?_eq_getElem this⟩
  · obtain ⟨rfl, y⟩ := y
    obtain ⟨v, h1, h2⟩ := r.get hp
    have := y vs (h _ l)
    rw [h1] at this
    cases this
    exact .inl ⟨rfl, h2⟩
def dItems (da : DE) : StE → Out (List PV) := bindE da fun x => match x with
  | .pv (.lst ps) => retE ps
  | .pv (.fz ps) => retE ps
  | _ => badE
def dItemsT (da : DE) : StE → Out (List PV) := bindE da fun x => match x with
  | .pv (.tup ps) => retE ps
  | _ => badE
theorem sni_list {tg l : Expr} {da : DE} (hK : X.K = P.K) (ha : Sn X P W l da) : SnI X P W tg l (dItems da) := PI.imp (pi_list ha) fun σ H R h => by
  obtain ⟨F, cad, e, r, h⟩ := h
  refine At.rd r ((At.bind (R := RepS P) h).mono fun v H1 ⟨F1, cad1, x, e1, b1, r1, s1, a1⟩ => ?_)
  dsimp only at a1
  split at a1
  · obtain ⟨a, vs, rfl, h1, h2⟩ := s1
    exact ⟨a, rfl, ⟨vs, .inl (.inl (r1.c.sub _ _ h1))⟩, At.ret (R := RItW P) r1 a1 (itw_list hK (fun H l => .inl (.inl (l _ _ h1))) h2)⟩
  · obtain ⟨a, vs, rfl, h1, h2⟩ := s1
    exact ⟨a, rfl, ⟨vs, by rw [hK]; exact SqL.le r1.c.sub h1⟩, At.ret (R := RItW P) r1 a1 (itw_list hK (fun H l => by rw [hK]; exact SqL.le l h1) h2)⟩
  · exact a1.elim
theorem sni_tup {tg l : Expr} {da : DE} (hK : X.K = P.K) (ha : Sn X P W l da) : SnI X P W tg l (dItemsT da) := PI.imp (pi_tup ha) fun σ H R h => by
  obtain ⟨F, cad, e, r, h⟩ := h
  refine At.rd r ((At.bind (R := RepS P) h).mono fun v H1 ⟨F1, cad1, x, e1, b1, r1, s1, a1⟩ => ?_)
  dsimp only at a1
  split at a1
  · obtain ⟨a, vs, rfl, h1, h2⟩ := s1
    exact ⟨a, rfl, ⟨vs, by rw [hK]; exact SqT.le r1.c.sub h1⟩, At.ret (R := RItW P) r1 a1 (itw_tup (fun H l => by rw [hK]; exact SqT.le l h1) h2)⟩
  · exact a1.elim
def rngP (lo : Int) (n : Nat) : List PV := (List.range n).map fun i => .int (lo + (i : Nat))
theorem itw_range {F : Hp} {lo : Int} {n : Nat} : ItW P (Itr lo n) F (rngP lo n) := by
  refine ⟨fun i H l hi => by show i < n; simpa [rngP] using hi, fun i p H x H' l hp y => ?_, fun i H l hi => by show n ≤ i; simpa [rngP] using hi⟩
  obtain ⟨rfl, rfl⟩ := y
  unfold rngP at hp
  rw [List.getElem?_map] at hp
  cases q : (List.range n)[i]? with
  | none => rw [q] at hp; cases hp
  | some j =>
    rw [q] at hp
    cases hp
    have := List.getElem?_range (n := n) (i := i) (by have := (List.getElem?_eq_some_iff.mp q).1; simpa using this)
    rw [q] at this
    cases this
    exact .inl ⟨rfl, rfl⟩
def dRng1 (das : StE → Out (List SV)) : StE → Out (List PV) := bindE das fun xs => match xs with
  | [.pv (.int j)] => if -4611686018427387904 ≤ j ∧ j < 4611686018427387904 then retE (rngP 0 j.toNat) else badE
  | _ => badE
def dRng2 (das : StE → Out (List SV)) : StE → Out (List PV) := bindE das fun xs => match xs with
  | [.pv (.int i), .pv (.int j)] => if -4611686018427387904 ≤ i ∧ i < 4611686018427387904 ∧ -4611686018427387904 ≤ j ∧ j < 4611686018427387904 then retE (rngP i (j - i).toNat) else badE
  | _ => badE
theorem sni_range1 {tg a : Expr} {das : StE → Out (List SV)} {p : Pos} (hg : Gl X "range") (hm : X.mg "range" = none) (ha : SnA X P W [a] das) (hs : starEach [a] X.env = [(false, eval a X.env)] := by rfl) : SnI X P W tg (.Call (.Name "range" p) [a] [] pos) (dRng1 das) :=
  PI.imp (pi_range1 hg hm ha hs) fun σ H R h => by
    obtain ⟨F, cad, e, r, h⟩ := h
    refine At.rd r ((At.bind (R := RepSs P) h).mono fun vs H1 ⟨F1, cad1, xs, e1, b1, r1, s1, a1⟩ => ?_)
    dsimp only at a1
    split at a1
    · split at a1
      · rename_i hj
        obtain ⟨v, rfl, h1⟩ := reps1 s1
        cases h1
        exact ⟨_, rfl, by have := hj.1; omega, by have := hj.2; omega, At.ret (R := RItW P) r1 a1 itw_range⟩
      · exact a1.elim
    · exact a1.elim
theorem sni_range2 {tg a b : Expr} {das : StE → Out (List SV)} {p : Pos} (hg : Gl X "range") (hm : X.mg "range" = none) (ha : SnA X P W [a, b] das) (hs : starEach [a, b] X.env = [(false, eval a X.env), (false, eval b X.env)] := by rfl) (hs2 : starEach [b] X.env = [(false, eval b X.env)] := by rfl) : SnI X P W tg (.Call (.Name "range" p) [a, b] [] pos) (dRng2 das) :=
  PI.imp (pi_range2 hg hm ha hs hs2) fun σ H R h => by
    obtain ⟨F, cad, e, r, h⟩ := h
    refine At.rd r ((At.bind (R := RepSs P) h).mono fun vs H1 ⟨F1, cad1, xs, e1, b1, r1, s1, a1⟩ => ?_)
    dsimp only at a1
    split at a1
    · split at a1
      · rename_i hj
        obtain ⟨v, u, rfl, h1, h2⟩ := reps2 s1
        cases h1
        cases h2
        exact ⟨_, _, rfl, ⟨by have := hj.1; omega, by have := hj.2.1; omega, by have := hj.2.2.1; omega, by have := hj.2.2.2; omega⟩, At.ret (R := RItW P) r1 a1 itw_range⟩
      · exact a1.elim
    · exact a1.elim
end
end Sh
namespace Sh
open PySem PySem.Spec PyProof.Rows L2
/-! # Lists by for -/
abbrev W0 : WX := fun _ _ _ _ => False
/-- slots forgotten -/
def wipeL (sl : List (Option SV)) : List Nat → List (Option SV)
  | [] => sl
  | v :: vs => (wipeL sl vs).set v none
theorem wipeL_length (sl : List (Option SV)) : ∀ vs : List Nat, (wipeL sl vs).length = sl.length
  | [] => rfl
  | v :: vs => by unfold wipeL; rw [List.length_set, wipeL_length sl vs]
theorem wipeL_some {sl : List (Option SV)} {i : Nat} {x : SV} : ∀ {vs : List Nat}, (wipeL sl vs)[i]? = some (some x) → sl[i]? = some (some x) ∧ i ∉ vs
  | [], h => ⟨h, by simp⟩
  | v :: vs, h => by
    unfold wipeL at h
    by_cases hi : v = i
    · subst hi
      by_cases hv : v < (wipeL sl vs).length
      · rw [List.getElem?_set_self hv] at h; cases h
      · rw [List.getElem?_eq_none (by rw [List.length_set]; exact Nat.le_of_not_lt hv)] at h; cases h
    · rw [List.getElem?_set_ne hi] at h
      obtain ⟨h1, h2⟩ := wipeL_some h
      exact ⟨h1, fun m => by rcases List.mem_cons.mp m with z | z; exact hi z.symm; exact h2 z⟩
/-- .. and put back -/
def restL (sl0 sl : List (Option SV)) : List Nat → List (Option SV)
  | [] => sl
  | v :: vs => (restL sl0 sl vs).set v (sl0[v]?.join)
theorem restL_length (sl0 sl : List (Option SV)) : ∀ vs : List Nat, (restL sl0 sl vs).length = sl.length
  | [] => rfl
  | v :: vs => by unfold restL; rw [List.length_set, restL_length sl0 sl vs]
theorem restL_some {sl0 sl : List (Option SV)} {i : Nat} {x : SV} : ∀ {vs : List Nat}, (restL sl0 sl vs)[i]? = some (some x) → sl0[i]? = some (some x) ∨ sl[i]? = some (some x)
  | [], h => .inr h
  | v :: vs, h => by
    unfold restL at h
    by_cases hi : v = i
    · subst hi
      by_cases hv : v < (restL sl0 sl vs).length
      · rw [List.getElem?_set_self hv] at h
        refine .inl ?_
        cases q : sl0[v]? with
        | none => rw [q] at h; simp at h
        | some o => rw [q] at h; simpa using h
      · rw [List.getElem?_eq_none (by rw [List.length_set]; exact Nat.le_of_not_lt hv)] at h; cases h
    · rw [List.getElem?_set_ne hi] at h
      exact restL_some h
section
variable {P : Pr} {F F1 H H1 : Hp} {cad cad1 : List Addr} {σ : L2.St} {e : StE} {own : List Nat}
theorem wipe_to {σ : L2.St} {i : Nat} (h : i ∉ own) : (wipe σ own)[i]? = σ[i]? := wipe_out h
theorem Rel.wipe (r : Rel P F cad e σ H) : Rel P F cad ⟨wipeL e.sl own, e.cs⟩ (L2.wipe σ own) H := by
  refine ⟨r.c, by rw [wipeL_length, wipe_length, r.sl], fun i x h => ?_⟩
  obtain ⟨h1, h2⟩ := wipeL_some h
  rw [wipe_to h2]
  exact r.slot i x h1
theorem Rel.rest {e0 : StE} (r0 : Rel P F cad e0 σ H) (b : Ext F cad H F1 cad1 H1) (r : Rel P F1 cad1 e (L2.wipe σ own) H1) : Rel P F1 cad1 ⟨restL e0.sl e.sl own, e.cs⟩ σ H1 := by
  refine ⟨r.c, by rw [restL_length, r.sl, wipe_length], fun i x h => ?_⟩
  rcases restL_some h with h | h
  · obtain ⟨v, h1, h2⟩ := r0.slot i x h
    exact ⟨v, h1, h2.le b.le b.pre⟩
  · obtain ⟨v, h1, h2⟩ := r.slot i x h
    exact ⟨v, (wipe_some h1).1, h2⟩
end
theorem wipe_same {τ : L2.St} : ∀ {ws : List Nat}, (∀ w ∈ ws, ∀ v, τ[w]? ≠ some (some v)) → wipe τ ws = τ
  | [], _ => rfl
  | w :: ws, h => by
    unfold wipe
    rw [wipe_same fun z hz => h z (List.mem_cons_of_mem _ hz)]
    refine List.ext_getElem? fun j => ?_
    by_cases hj : w = j
    · subst hj
      by_cases hl : w < τ.length
      · rw [List.getElem?_set_self hl]
        cases z : τ[w]? with
        | none =>
          rw [List.getElem?_eq_none_iff] at z
          omega
        | some o =>
          cases o with
          | none => rfl
          | some v => exact absurd z (h w List.mem_cons_self v)
      · rw [List.getElem?_eq_none (by rw [List.length_set]; exact Nat.le_of_not_lt hl), List.getElem?_eq_none (Nat.le_of_not_lt hl)]
    · rw [List.getElem?_set_ne hj]
/-- a target that writes its own slots alone -/
def SnGw (X : Cx) (P : Pr) (own : List Nat) (tg : Expr) (g : DG) : Prop := PG X tg fun v σ H Q => ∃ F cad e x, Rel P F cad e σ H ∧ RepS P F cad x v ∧ ∃ e', g x e = .ok () e' ∧ ∀ σ' H', wipe σ' own = wipe σ own → (∃ F' cad', Ext F cad H F' cad' H' ∧ Rel P F' cad' e' σ' H') → Q σ' H'
def SnGsw (X : Cx) (P : Pr) (own : List Nat) (ts : List Expr) (g : DGs) : Prop := PGs X ts fun vs σ H Q => ∃ F cad e xs, Rel P F cad e σ H ∧ RepSs P F cad xs vs ∧ ∃ e', g xs e = .ok () e' ∧ ∀ σ' H', wipe σ' own = wipe σ own → (∃ F' cad', Ext F cad H F' cad' H' ∧ Rel P F' cad' e' σ' H') → Q σ' H'
theorem wipe_set1 {σ : L2.St} {i : Nat} {o : Option V} : ∀ {own : List Nat}, i ∈ own → wipe (σ.set i o) own = wipe σ own
  | [], h => by simp at h
  | v :: vs, h => by
    unfold wipe
    by_cases q : i ∈ vs
    · rw [wipe_set1 q]
    · have e : i = v := by rcases List.mem_cons.mp h with z | z; exact z; exact absurd z q
      subst e
      have : ∀ {ws : List Nat}, i ∉ ws → wipe (σ.set i o) ws = (wipe σ ws).set i o := fun {ws} hw => by
        induction ws with
        | nil => rfl
        | cons w ws ih =>
          have h1 : w ≠ i := fun z => hw (by simp [z])
          have h2 : i ∉ ws := fun z => hw (by simp [z])
          unfold wipe
          rw [ih h2, List.set_comm _ _ (Ne.symm h1)]
      rw [this q, List.set_set]
section
variable {X : Cx} {P : Pr} {pos : Pos} {own : List Nat}
theorem sngw_name {i : Nat} {x : Str} (hN : X.N.Nodup) (hi : X.N[i]? = some x) (hx : Loc X.env.scope x) (hm : i ∈ own := by decide) (hf : X.fn x = true ∨ X.env.scope.names.lookup x = some .local := by first | exact .inl rfl | exact .inr rfl | assumption) : SnGw X P own (.Name x pos) (gSet i) :=
  PG.imp (pg_name hN hi hx hf) fun v σ H Q ⟨F, cad, e, x, r, s, e', he, h⟩ => by
    cases he
    exact h (σ.set i (some v)) H (wipe_set1 hm) ⟨F, cad, Ext.refl _ _ _, r.set i s⟩
theorem sngsw_nil : SnGsw X P own [] gsNil := PGs.imp pgs_nil fun vs σ H Q ⟨F, cad, e, xs, r, s, e', he, h⟩ => by
  cases s with
  | nil => cases he; exact ⟨rfl, h σ H rfl ⟨F, cad, Ext.refl _ _ _, r⟩⟩
  | cons _ _ => cases he
theorem sngsw_cons {e : Expr} {es : List Expr} {g : DG} {gs : DGs} (h1 : SnGw X P own e g) (h2 : SnGsw X P own es gs)
    (hs : (assignEach (e :: es) X.env).map (·.2) = assign e X.env :: (assignEach es X.env).map (·.2) := by rfl) : SnGsw X P own (e :: es) (gsCons g gs) := PGs.imp (pgs_cons h1 h2 hs) fun vs σ H Q ⟨F, cad, e, xs, r, s, e', he, h⟩ => by
  cases s with
  | nil => cases he
  | @cons x v xs vs s1 s2 =>
    have he : (match g x e with
      | .ok _ e' => gs xs e'
      | .exc c fs e' => .exc c fs e'
      | .bad => .bad) = Out.ok () e' := he
    cases q : g x e with
    | ok u e1 =>
      rw [q] at he
      exact ⟨v, vs, rfl, F, cad, e, x, r, s1, e1, q, fun σ' H' hw ⟨F', cad', b, r'⟩ => ⟨F', cad', e1, xs, r', s2.le b.le b.pre, e', he, fun σ2 H2 hw2 ⟨F2, cad2, b2, r2⟩ => h σ2 H2 (hw2.trans hw) ⟨F2, cad2, b.trans b2, r2⟩⟩⟩
    | exc c fs e1 => rw [q] at he; cases he
    | bad => rw [q] at he; cases he
theorem sngw_tup {es : List Expr} {k : Nat} {gs : DGs} {n : Nat} (hK : X.K = P.K) (hc : X.calm = true) (h : SnGsw X P own es gs)
    (hn : (assignEach es X.env).length = n := by rfl) (hst : (assignEach es X.env).findIdx? (·.1) = none := by rfl) : SnGw X P own (.Tuple es k pos) (gTupD n gs) := PG.imp (pg_tup hc h hn hst) fun v σ H Q ⟨F, cad, e, x, r, s, e', he, h⟩ => by
  unfold gTupD at he
  split at he
  · rename_i ps
    split at he
    · rename_i hl
      obtain ⟨a, vs, rfl, h1, h2⟩ := s
      exact ⟨a, vs, rfl, by rw [hK]; exact SqT.le r.c.sub h1, by rw [← h2.length]; exact hl, F, cad, e, _, r, reps_pvs h2, e', he, h⟩
    · cases he
  · cases he
/-! ### the turns -/
def lcF (k : Nat) (own : List Nat) (g : DG) (t : StE → Out Bool) (de : DE) : List PV → StE → Out Unit
  | [], e => .ok () e
  | p :: ps, e => match g (.pv p) e with
    | .ok _ e1 => match t e1 with
      | .ok false e2 => lcF k own g t de ps ⟨wipeL e2.sl own, e2.cs⟩
      | .ok true e2 => match de e2 with
        | .ok y e3 => match e3.cs[k]? with
          | some (some (.l acc)) => if acc.length < 16777216 then lcF k own g t de ps ⟨wipeL e3.sl own, e3.cs.set k (some (.l (acc ++ [y])))⟩ else .bad
          | _ => .bad
        | _ => .bad
      | _ => .bad
    | _ => .bad
def dLc (own : List Nat) (di : StE → Out (List PV)) (g : DG) (t : StE → Out Bool) (de : DE) : DE := bindE di fun ps e => match lcF e.cs.length own g t de ps ⟨wipeL e.sl own, e.cs ++ [some (.l [])]⟩ with
  | .ok _ e' => .ok (.cell e.cs.length) ⟨restL e.sl e'.sl own, e'.cs⟩
  | _ => .bad
def SnTs (X : Cx) (P : Pr) (W : WX) (ifs : List Expr) (t : StE → Out Bool) : Prop := PTs X ifs (Rd P rB W t)
theorem PTs.imp {X : Cx} {x : List Expr} {t t' : TT} (h : PTs X x t) (i : ∀ σ H Q, t' σ H Q → t σ H Q) : PTs X x t' := ⟨fun pins s σ H Q I q => h.run pins s σ H Q I (i σ H Q q)⟩
def dYes : StE → Out Bool := retE true
theorem snts_nil {W : WX} : SnTs X P W [] dYes := PTs.imp pts_nil fun σ H Q h => Rd.ret h fun _ _ => rfl
theorem snts_one {W : WX} {c : Expr} {t : StE → Out Bool} (h : SnT X P W c t) : SnTs X P W [c] t := pts_one h
theorem At.ok {α β : Type} {R : RG α β} {W : WX} {d : StE → Out α} {F H : Hp} {cad : List Addr} {e e' : StE} {σ : L2.St} {x : α} {Q : β → Hp → Prop} (h : d e = .ok x e') (i : ∀ v H' F' cad', Ext F cad H F' cad' H' → Rel P F' cad' e' σ H' → R F' cad' x v → Q v H') : At P R W d F cad e σ H Q := by
  unfold At
  rw [h]
  exact fun v H' ⟨F', cad', b, r, s⟩ => i v H' F' cad' b r s
theorem lc_read {W : WX} {di : StE → Out (List PV)} {g : DG} {t : StE → Out Bool} {de : DE} {σ : L2.St} {H : Hp} {Q : VK} (h : Rd P (RepS P) W (dLc own di g t de) σ H Q) :
    tLc (Rd P (RItW P) W di) (fun v σ H Q => ∃ F cad e x, Rel P F cad e σ H ∧ RepS P F cad x v ∧ ∃ e', g x e = .ok () e' ∧ ∀ σ' H', wipe σ' own = wipe σ own → (∃ F' cad', Ext F cad H F' cad' H' ∧ Rel P F' cad' e' σ' H') → Q σ' H') (Rd P rB W0 t) (Rd P (RepS P) W0 de) own σ H Q := by
  obtain ⟨F, cad, e, r, h⟩ := h
  refine At.rd r ((At.bind (R := RItW P) h).mono fun J H1 ⟨F1, cad1, ps, e1, b1, r1, s1, a1⟩ => fun D hD => ?_)
  unfold At at a1
  dsimp only at a1
  generalize hk : e1.cs.length = k at a1
  -- the list that grows
  have rD := r1.cell (xs := []) (vs := []) .nil hD
  have eD : Ext F1 cad1 H1 F1 (cad1 ++ [D]) (L2.upd H1 D (.lst [])) := ⟨Le.refl F1, pre_snoc _ _, fun x hx hn => by
    rcases List.mem_append.mp hx with z | z
    · exact absurd z hn
    · rw [List.mem_singleton.mp z]; exact hD, fun x o z _ => by rw [upd_ne (ne_of_none z hD)]; exact z, fun _ _ z => .inl z⟩
  have hkD : (cad1 ++ [D])[k]? = some D := by
    rw [← hk, r1.c.len]
    simp
  cases ql : lcF k own g t de ps ⟨wipeL e1.sl own, e1.cs ++ [some (.l [])]⟩ with
  | exc c fs e' => rw [ql] at a1; exact a1.elim
  | bad => rw [ql] at a1; exact a1.elim
  | ok u eN =>
    rw [ql] at a1
    have fin : ∀ F' cad' H', Ext F1 (cad1 ++ [D]) (L2.upd H1 D (.lst [])) F' cad' H' → Rel P F' cad' eN (L2.wipe σ own) H' → Q (.ref D) H' := fun F' cad' H' b rr => by
      have kD : cad'[k]? = some D := by
        obtain ⟨t', ht⟩ := b.pre
        rw [← ht, List.getElem?_append_left (List.getElem?_eq_some_iff.mp hkD).1]
        exact hkD
      exact a1 (.ref D) H' ⟨F', cad', eD.trans b, r1.rest (eD.trans b) rr, D, kD, rfl⟩
    refine ⟨fun i m H => m = ps.length - i ∧ i ≤ ps.length ∧ ∃ F2 cad2 e2, Ext F1 (cad1 ++ [D]) (L2.upd H1 D (.lst [])) F2 cad2 H ∧ Rel P F2 cad2 e2 (L2.wipe σ own) H ∧ lcF k own g t de (ps.drop i) e2 = .ok u eN,
      ⟨ps.length, by simp, Nat.zero_le _, F1, _, _, Ext.refl _ _ _, rD.wipe, ql⟩, ?_⟩
    rintro i m H2 ⟨rfl, hi', F2, cad2, e2, x2, r2, q2⟩
    have lh : Le F1 H2 := x2.le.trans r2.c.sub
    by_cases hlt : i < ps.length
    · refine .inr ⟨s1.go i H2 lh hlt, fun H' => ∃ F' cad' e', Ext F1 (cad1 ++ [D]) (L2.upd H1 D (.lst [])) F' cad' H' ∧ Rel P F' cad' e' (L2.wipe σ own) H' ∧ lcF k own g t de (ps.drop (i + 1)) e' = .ok u eN, fun H' q => ⟨ps.length - (i + 1), by omega, rfl, hlt, q⟩, fun x H' y => ?_⟩
      have hp : ps[i]? = some ps[i] := List.getElem?_eq_getElem hlt
      rw [List.drop_eq_getElem_cons hlt] at q2
      unfold lcF at q2
      cases qg : g (.pv ps[i]) e2 with
      | exc c fs e3 => rw [qg] at q2; cases q2
      | bad => rw [qg] at q2; cases q2
      | ok u3 e3 =>
        rw [qg] at q2
        have step : ∀ {F3 H3 : Hp}, Ext F2 cad2 H2 F3 cad2 H3 → Rel P F3 cad2 e2 (L2.wipe σ own) H3 → Rep P F3 ps[i] x →
            ∃ F cad e sx, Rel P F cad e (L2.wipe σ own) H3 ∧ RepS P F cad sx x ∧ ∃ e', g sx e = .ok () e' ∧ ∀ σ' H', wipe σ' own = wipe (L2.wipe σ own) own → (∃ F' cad', Ext F cad H3 F' cad' H' ∧ Rel P F' cad' e' σ' H') →
              wipe σ' own = L2.wipe σ own ∧ Rd P rB W0 t σ' H' fun b H3 => if b = true then Rd P (RepS P) W0 de σ' H3 fun y H4 => ∃ acc, H4 D = some (.lst acc) ∧ acc.length < sizeLine ∧ (∃ F' cad' e', Ext F1 (cad1 ++ [D]) (L2.upd H1 D (.lst [])) F' cad' (L2.upd H4 D (.lst (acc ++ [y]))) ∧ Rel P F' cad' e' (L2.wipe σ own) (L2.upd H4 D (.lst (acc ++ [y]))) ∧ lcF k own g t de (ps.drop (i + 1)) e' = .ok u eN)
                else ∃ F' cad' e', Ext F1 (cad1 ++ [D]) (L2.upd H1 D (.lst [])) F' cad' H3 ∧ Rel P F' cad' e' (L2.wipe σ own) H3 ∧ lcF k own g t de (ps.drop (i + 1)) e' = .ok u eN := by
          intro F3 H3 x3 r3 s3
          refine ⟨F3, cad2, e2, .pv ps[i], r3, s3, e3, qg, fun σ' H' hw ⟨F4, cad4, x4, r4⟩ => ?_⟩
          have hww : wipe (L2.wipe σ own) own = L2.wipe σ own := wipe_same fun w hw v z => (wipe_some z).2 hw
          refine ⟨hw.trans hww, ?_⟩
          have back : ∀ {F5 H5 : Hp} {cad5 : List Addr} {e5 : StE}, Rel P F5 cad5 e5 σ' H5 → Rel P F5 cad5 ⟨wipeL e5.sl own, e5.cs⟩ (L2.wipe σ own) H5 := fun {F5 H5 cad5 e5} r5 => by
            have := r5.wipe (own := own)
            rw [hw.trans hww] at this
            exact this
          have xx := x2.trans (x3.trans x4)
          dsimp only at q2
          cases qt : t e3 with
          | exc c fs e4 => rw [qt] at q2; cases q2
          | bad => rw [qt] at q2; cases q2
          | ok b e4 =>
            rw [qt] at q2
            refine At.rd r4 (At.ok qt fun vb H5 F5 cad5 x5 r5 hb => ?_)
            cases hb
            cases b with
            | false => exact ⟨F5, cad5, _, xx.trans x5, back r5, q2⟩
            | true =>
              dsimp only at q2
              cases qd : de e4 with
              | exc c fs e5 => rw [qd] at q2; cases q2
              | bad => rw [qd] at q2; cases q2
              | ok y e5 =>
                rw [qd] at q2
                refine At.rd r5 (At.ok qd fun vy H6 F6 cad6 x6 r6 hy => ?_)
                dsimp only at q2
                split at q2
                · rename_i acc hacc
                  split at q2
                  · rename_i hz
                    obtain ⟨a, h1, h2, vs, h3, h4⟩ := r6.c.cell k _ hacc
                    have x7 := (xx.trans x5).trans x6
                    have : a = D := by
                      obtain ⟨t', ht⟩ := x7.pre
                      rw [← ht, List.getElem?_append_left (List.getElem?_eq_some_iff.mp hkD).1, hkD] at h1
                      exact (Option.some.inj h1).symm
                    subst this
                    refine ⟨vs, h3, by rw [sizeLine_eq, ← h4.length]; exact hz, F6, cad6, _, x7.trans (Ext.put h1), ?_, q2⟩
                    exact (back r6).putl (zs := acc) (e := ⟨wipeL e5.sl own, e5.cs⟩) hacc h1 h2 (h4.append (.cons hy .nil))
                  · cases q2
                · cases q2
        rcases s1.yld i _ H2 x H' lh hp y with ⟨rfl, rp⟩ | ⟨a, o, ha, rfl, rp⟩
        · exact step (Ext.refl _ _ _) r2 (rp.le x2.le)
        · exact step (Ext.alloc r2.c ha) (r2.alloc ha) (rp.le (upd_le x2.le))
    · have : i = ps.length := by omega
      subst this
      rw [List.drop_length] at q2
      cases q2
      exact .inl ⟨s1.stop _ H2 lh (Nat.le_refl _), fin F2 cad2 H2 x2 r2⟩
theorem sn_lc {W : WX} {elt tg iter : Expr} {ifs : List Expr} {scope : Scope} {own : List (Str × Nat)} {di : StE → Out (List PV)} {g : DG} {t : StE → Out Bool} {de : DE} (hc : X.calm = true) (hN : X.N.Nodup) (hi : SnI X P W tg iter di) (ok : BlkOk X.N X.env.scope scope own)
    (hg : ∀ (s : Shared) (H : Hp) (C : Addr) (cl : List (Str × Addr)) (fp : List Addr), SnGw (X.blk s H scope (compEnvC scope cl C X.env) fp) P (own.map (·.2)) tg g) (ht : ∀ (s : Shared) (H : Hp) (C : Addr) (cl : List (Str × Addr)) (fp : List Addr), SnTs (X.blk s H scope (compEnvC scope cl C X.env) fp) P W0 ifs t)
    (he : ∀ (s : Shared) (H : Hp) (C : Addr) (cl : List (Str × Addr)) (fp : List Addr), Sn (X.blk s H scope (compEnvC scope cl C X.env) fp) P W0 elt de) (hs : ∀ x, foldedSetIterable iter X.env x = pure x := by intro _; rfl) :
    Sn X P W (.ListComp elt [⟨tg, iter, ifs, 0⟩] scope pos) (dLc (own.map (·.2)) di g t de) := PE.imp (pe_lc hc hN hi ok hg ht he hs) fun σ H Q h => lc_read h
theorem sns_setLc {W : WX} {i : Nat} {y : Str} {py spos : Pos} {elt tg iter : Expr} {ifs : List Expr} {scope : Scope} {own : List (Str × Nat)} {di : StE → Out (List PV)} {g : DG} {t : StE → Out Bool} {de : DE} (hc : X.calm = true) (hN : X.N.Nodup) (hy : X.N[i]? = some y) (hyl : X.env.scope.names.lookup y = some .local)
    (hsw : swapsWith (.ListComp elt [⟨tg, iter, ifs, 0⟩] scope pos) (some (.Name y py)) spos.line X.env = pure true) (hi : SnI X P W tg iter di) (ok : BlkOk X.N X.env.scope scope own)
    (hg : ∀ (s : Shared) (H : Hp) (C : Addr) (cl : List (Str × Addr)) (fp : List Addr), SnGw (X.blk s H scope (compEnvC scope cl C X.env) fp) P (own.map (·.2)) tg g) (ht : ∀ (s : Shared) (H : Hp) (C : Addr) (cl : List (Str × Addr)) (fp : List Addr), SnTs (X.blk s H scope (compEnvC scope cl C X.env) fp) P W0 ifs t)
    (he : ∀ (s : Shared) (H : Hp) (C : Addr) (cl : List (Str × Addr)) (fp : List Addr), Sn (X.blk s H scope (compEnvC scope cl C X.env) fp) P W0 elt de) (hs : ∀ x, foldedSetIterable iter X.env x = pure x := by intro _; rfl) :
    SnS X P W (.Assign [.Name y py] (.ListComp elt [⟨tg, iter, ifs, 0⟩] scope pos) spos) (sSet i (dLc (own.map (·.2)) di g t de)) := PS.imp (ps_setLc hc hN hy hyl hsw hi ok hg ht he hs) fun D σ H h => by
  obtain ⟨F, cad, e, r, h⟩ := h
  refine lc_read (W := W) (At.rd r ((AtS.bind (R := RepS P) h).mono fun v H1 ⟨F1, cad1, x, e1, b, r1, s1, a1⟩ => ?_))
  exact a1 (σ.set i (some v)) H1 ⟨F1, cad1, Ext.refl _ _ _, r1.set i s1⟩
end
end Sh
namespace Sh
open PySem PySem.Spec PyProof.Rows L2 ClX
/-! # Calls of all forms -/
def pick {α : Type} (π : List Nat) (l : List α) : List α := π.filterMap (l[·]?)
theorem pick_len {α : Type} {l : List α} : ∀ {π : List Nat}, (∀ i ∈ π, i < l.length) → (pick π l).length = π.length
  | [], _ => rfl
  | i :: π, h => by
    have h1 := h i List.mem_cons_self
    have h2 := pick_len (l := l) fun j hj => h j (List.mem_cons_of_mem _ hj)
    unfold pick at h2 ⊢
    rw [List.filterMap_cons, List.getElem?_eq_getElem h1]
    simp [h2]
theorem Vals.pick {vs : List V} {us : List Value} (h : Vals vs us) : ∀ π : List Nat, Vals (pick π vs) (pick π us)
  | [] => .nil
  | i :: π => by
    have ih := Vals.pick h π
    unfold Sh.pick at ih ⊢
    rw [List.filterMap_cons, List.filterMap_cons]
    cases q : vs[i]? with
    | none =>
      have : us[i]? = none := by
        rw [List.getElem?_eq_none_iff] at q ⊢
        rw [← h.length]; exact q
      rw [this]; exact ih
    | some v =>
      obtain ⟨u, hu, r⟩ := h.get q
      rw [hu]
      exact .cons r ih
theorem RepSs.pick {P : Pr} {F : Hp} {cad : List Addr} {xs : List SV} {vs : List V} (h : RepSs P F cad xs vs) : ∀ π : List Nat, RepSs P F cad (pick π xs) (pick π vs)
  | [] => .nil
  | i :: π => by
    have ih := RepSs.pick h π
    unfold Sh.pick at ih ⊢
    rw [List.filterMap_cons, List.filterMap_cons]
    cases q : xs[i]? with
    | none =>
      have : vs[i]? = none := by
        rw [List.getElem?_eq_none_iff] at q ⊢
        rw [← h.length]; exact q
      rw [this]; exact ih
    | some v =>
      obtain ⟨u, hu, r⟩ := h.get q
      rw [hu]
      exact .cons r ih
/-- how a call binds: n values by place, the keywords' ones, the defaults; π: where each parameter's value stands among all these -/
structure KB (K : PySem.W.Frag) (fd : FuncData) (ps : List Str) (n : Nat) (ks : List Str) (π : List Nat) (dvs : List V) : Prop where
  ex : ∃ ds, Vals dvs ds ∧ ∀ (s : Shared) (us ws : List Value), K.In s.heap → us.length = n → ws.length = ks.length → BindsTo s fd ⟨us, ks.zip ws⟩ (ps.zip (pick π (us ++ ws ++ ds)))
  all : ∀ i ∈ π, i < n + ks.length + dvs.length
  len : π.length = ps.length
section
variable {K : PySem.W.Frag} {x qual : Str} {params : Arguments} {body : List Stmt} {scope : Scope} {dvs : List V} {kws : List (Str × V)} {f : Addr} {fd : FuncData} {ps ks : List Str} {n : Nat} {π : List Nat}
theorem KB.none (F : FunD K x qual params body scope [] kws f fd)
    (h : ∀ (kV doc pm : Value) (an : Option Addr) (cdv ct : Value) (us ws : List Value), us.length = n → ws.length = ks.length → bindArgs (PySem.W.fnOf x qual params body scope .none kV doc pm an cdv ct) ⟨us, ks.zip ws⟩ = pure (ps.zip (pick π (us ++ ws ++ []))))
    (hall : ∀ i ∈ π, i < n + ks.length + ([] : List V).length) (hlen : π.length = ps.length) : KB K fd ps n ks π [] := by
  obtain ⟨oc, od, dV, kV, doc, pm, an, cdv, ct, osl, rfl, lk, hcd, hD, hK⟩ := F.ex
  rcases hD with ⟨_, rfl⟩ | ⟨e, _⟩
  · exact ⟨⟨[], .nil, fun s us ws X l1 l2 => .of_eq (h kV doc pm an cdv ct us ws l1 l2)⟩, hall, hlen⟩
  · exact absurd rfl e
theorem KB.dflt (F : FunD K x qual params body scope dvs kws f fd) (hd : dvs ≠ [])
    (h : ∀ (T : Addr) (kV doc pm : Value) (an : Option Addr) (cdv ct : Value) (us its ws : List Value), us.length = n → its.length = dvs.length → ws.length = ks.length →
      ∃ k, bindArgs (PySem.W.fnOf x qual params body scope (.ref T) kV doc pm an cdv ct) ⟨us, ks.zip ws⟩ = seqItems? (.ref T) >>= k ∧ k (some its.toArray) = pure (ps.zip (pick π (us ++ ws ++ its))))
    (hall : ∀ i ∈ π, i < n + ks.length + dvs.length) (hlen : π.length = ps.length) : KB K fd ps n ks π dvs := by
  obtain ⟨oc, od, dV, kV, doc, pm, an, cdv, ct, osl, rfl, lk, hcd, hD, hK⟩ := F.ex
  rcases hD with ⟨e, _⟩ | ⟨_, T, o, its, m, rfl, lT, oT, rT⟩
  · exact absurd e hd
  · refine ⟨⟨its, rT, fun s us ws X l1 l2 => ?_⟩, hall, hlen⟩
    obtain ⟨k, e1, e2⟩ := h T kV doc pm an cdv ct us its ws l1 rT.length.symm l2
    refine BindsTo.of_looks fun M => ?_
    rw [e1]
    exact looks_items X lT oT (.of_pure e2)
end
/-! ### the arguments -/
def SnK (X : Cx) (P : Pr) (W : WX) (kws : List Keyword) (d : StE → Out (List SV)) : Prop := PK X kws (Rd P (RepSs P) W d)
theorem PK.imp {X : Cx} {x : List Keyword} {t t' : TA} (h : PK X x t) (i : ∀ σ H Q, t' σ H Q → t σ H Q) : PK X x t' := ⟨fun ps pins s σ H Q I q => h.run ps pins s σ H Q I (i σ H Q q)⟩
def dApp2 (a b : StE → Out (List SV)) : StE → Out (List SV) := bindE a fun xs => bindE b fun ys => retE (xs ++ ys)
/-- a call's arguments: n by place, the keywords ks -/
structure CallA (X : Cx) (P : Pr) (W : WX) (pos : Pos) (args : List Expr) (kws : List Keyword) (n : Nat) (ks : List Str) (d : StE → Out (List SV)) : Prop where
  run : ∀ (f : Value) (first : List Value) (Ph : Heap → Prop) (pins : List (Addr × Obj)) (s : Shared) (σ : L2.St) (H : Hp) (Q : Value → Shared → Prop) (T : List V → Hp → Prop),
    (∀ h, Ph h → ∃ k, (k = Keeper.frame ∨ k = Keeper.machine ∨ k = Keeper.boundFrame) ∧ PySem.W.Looks (model X.prog X.w) h (keeperOf f) k) → Inv X pins σ H s → Rd P (RepSs P) W d σ H T →
    (∀ us ws vs s' H', Inv X pins σ H' s' → us.length = n → ws.length = ks.length → Vals vs (us ++ ws) → T vs H' → Ph s'.heap ∧ wpAny (model X.prog X.w) X.A (call f (first ++ us) (ks.zip ws)) Q X.xe s') →
    wpAny (model X.prog X.w) X.A (callWith pos f first (backTo pos (starEach args X.env)) (backToKw pos (keywordEach kws X.env))) Q X.xe s
section
variable {X : Cx} {P : Pr} {W : WX} {e : Expr} {es : List Expr} {kws : List Keyword} {da : DE} {das dks : StE → Out (List SV)} {pos kpos : Pos} {nm : Option Str} {n : Nat} {ks : List Str}
theorem snk_nil : SnK X P W [] dNil := PK.imp pk_nil fun σ H Q h => Rd.ret h fun _ _ => .nil
theorem snk_cons (ha : Sn X P W e da) (hr : SnK X P W kws dks) : SnK X P W (⟨nm, e, kpos⟩ :: kws) (dCons da dks) := PK.imp (pk_cons ha hr) fun σ H Q h => by
  obtain ⟨F, cad, st, r, h⟩ := h
  refine At.rd r ((At.bind (R := RepS P) h).mono fun v H1 ⟨F1, cad1, x, e1, b1, r1, s1, a1⟩ => ?_)
  refine At.rd r1 ((At.bind (R := RepSs P) a1).mono fun vs H2 ⟨F2, cad2, xs, e2, b2, r2, s2, a2⟩ => ?_)
  exact At.ret r2 a2 (.cons (s1.le b2.le b2.pre) s2)
theorem ca_nil : CallA X P W pos [] [] 0 [] dNil := by
  refine ⟨fun f first Ph pins s σ H Q T hk I h k => ?_⟩
  have := k [] [] [] s H I rfl rfl .nil (Rd.ret h fun _ _ => .nil)
  exact PySem.W.callWith_of (P := Ph) rfl hk (evalArgs_nil3 this)
theorem ca_pos (ha : SnA X P W (e :: es) das) (hn : (e :: es).length = n) (he : starEach (e :: es) X.env = (false, eval e X.env) :: starEach es X.env := by rfl) (hpl : (backTo pos (starEach es X.env)).any (·.1) = false := by rfl) : CallA X P W pos (e :: es) [] n [] (bindE das fun xs => if xs.length = n then retE xs else badE) := by
  refine ⟨fun f first Ph pins s σ H Q T hk I h k => ?_⟩
  obtain ⟨F, cad, st, r, h⟩ := h
  have z : wpAny (model X.prog X.w) X.A (spliced (backTo pos (starEach (e :: es) X.env))) (fun us s1 => Ph s1.heap ∧ wpAny (model X.prog X.w) X.A (call f (first ++ us)) Q X.xe s1) X.xe s := thn (ha.run pos pins s σ H _ I (At.rd r (At.bind (R := RepSs P) h))) fun us s1 ⟨vs, H1, I1, rv, F1, cad1, xs, e1, b1, r1, s1', a1⟩ => by
    dsimp only at a1
    split at a1
    · rename_i hx
      have hl : us.length = n := by rw [← rv.length, ← s1'.length]; exact hx
      have := k us [] vs s1 H1 I1 hl rfl (by simpa using rv) (At.ret r1 a1 s1')
      simpa using this
    · exact a1.elim
  rw [he] at z ⊢
  exact PySem.W.callWith_of (P := Ph) (by show ((false || (backTo pos (starEach es X.env)).any (·.1)) || false) = false; rw [hpl]; rfl) hk (Calls.evalArgs_plain z)
theorem ca_kw (hk1 : SnK X P W kws dks) (hall : (backToKw pos (keywordEach kws X.env)).all (·.1.isSome) = true := by rfl) (hks : (backToKw pos (keywordEach kws X.env)).filterMap (·.1) = ks := by rfl)
    (hpl : ((backTo pos (starEach [] X.env)).any (·.1) || (backToKw pos (keywordEach kws X.env)).any (·.1.isNone)) = false := by rfl) : CallA X P W pos [] kws 0 ks (bindE dks fun xs => if xs.length = ks.length then retE xs else badE) := by
  refine ⟨fun f first Ph pins s σ H Q T hk I h k => ?_⟩
  obtain ⟨F, cad, st, r, h⟩ := h
  refine PySem.W.callWith_of (P := Ph) hpl hk (evalArgs_kw2_nil hall (thn (hk1.run pos pins s σ H _ I (At.rd r (At.bind (R := RepSs P) h))) fun ws s1 ⟨vs, H1, I1, rv, F1, cad1, xs, e1, b1, r1, s1', a1⟩ => ?_))
  dsimp only at a1
  split at a1
  · rename_i hx
    have hl : ws.length = ks.length := by rw [← rv.length, ← s1'.length]; exact hx
    rw [hks]
    exact k [] ws vs s1 H1 I1 rfl hl (by simpa using rv) (At.ret r1 a1 s1')
  · exact a1.elim
theorem ca_both (ha : SnA X P W (e :: es) das) (hn : (e :: es).length = n) (hk1 : SnK X P W kws dks) (hall : (backToKw pos (keywordEach kws X.env)).all (·.1.isSome) = true := by rfl) (hks : (backToKw pos (keywordEach kws X.env)).filterMap (·.1) = ks := by rfl)
    (he : starEach (e :: es) X.env = (false, eval e X.env) :: starEach es X.env := by rfl)
    (hpl : ((backTo pos (starEach (e :: es) X.env)).any (·.1) || (backToKw pos (keywordEach kws X.env)).any (·.1.isNone)) = false := by rfl) : CallA X P W pos (e :: es) kws n ks (bindE das fun xs => if xs.length = n then bindE dks fun ys => if ys.length = ks.length then retE (xs ++ ys) else badE else badE) := by
  refine ⟨fun f first Ph pins s σ H Q T hk I h k => ?_⟩
  obtain ⟨F, cad, st, r, h⟩ := h
  refine PySem.W.callWith_of (P := Ph) hpl hk (evalArgs_kw2 hall (thn (ha.run pos pins s σ H _ I (At.rd r (At.bind (R := RepSs P) h))) fun us s1 ⟨vs, H1, I1, rv, F1, cad1, xs, e1, b1, r1, s1', a1⟩ => ?_) he)
  dsimp only at a1
  split at a1
  · rename_i hx
    refine thn (hk1.run pos pins s1 σ H1 _ I1 (At.rd r1 (At.bind (R := RepSs P) a1))) fun ws s2 ⟨zs, H2, I2, rz, F2, cad2, ys, e2, b2, r2, s2', a2⟩ => ?_
    dsimp only at a2
    split at a2
    · rename_i hy
      rw [hks]
      exact k us ws (vs ++ zs) s2 H2 I2 (by rw [← rv.length, ← s1'.length]; exact hx) (by rw [← rz.length, ← s2'.length]; exact hy) (rv.append rz) (At.ret r2 a2 ((s1'.le b2.le b2.pre).append s2'))
    · exact a2.elim
  · exact a1.elim
end
/-! ### f(..), C(..), o.m(..), C.m(..) -/
section
variable {X : Cx} {P : Pr} {W : WX} {k n : Nat} {g : Bool} {f : Addr} {fd : FuncData} {ps ks : List Str} {d : DF} {args : List Expr} {kws : List Keyword} {da : DE} {das : StE → Out (List SV)} {o : List SV → DE} {x : Str} {p pos apos : Pos} {sds : List SV} {dvs : List V} {π : List Nat} {c : Nat} {ci : CI} {e : Expr} {m : Str}
def dCall (π : List Nat) (sds : List SV) (o : List SV → DE) (das : StE → Out (List SV)) : DE := bindE das fun xs => o (pick π (xs ++ sds))
theorem sn_callG (T : FnD X.prog X.w X.K X.mg X.base P k g f fd ps d) (hr : Room k X.A) (hg : g = true → X.A.guards = some []) (tk : Takes X W) (hG : Gl X x) (hm : X.mg x = some (.ref f)) (hk : PySem.W.keepIn X.K (.ref f) = true) (hb : KB X.K fd ps n ks π dvs) (hs : RepD P sds dvs)
    (hc : CallD P W d o) (ha : CallA X P W pos args kws n ks das) (hdb : (x == ("__debug__" : Str)) = false := by decide) : Sn X P W (.Call (.Name x p) args kws pos) (dCall π sds o das) := by
  refine ⟨fun pins s σ H Q I h => ?_⟩
  refine wpAny_Call_Name_kw (ld_glob I hG hm ?_ hdb)
  obtain ⟨F, cad, st, r, h⟩ := h
  refine ha.run (.ref f) [] X.K.In pins s σ H _ _ (PySem.W.keeps_K hk) I (At.rd r (At.bind (R := RepSs P) h)) fun us ws vs s1 H1 I1 l1 l2 rv ⟨F1, cad1, xs, e1, b1, r1, s1', a1⟩ => ⟨I1.kIn, ?_⟩
  obtain ⟨ds, hd, hbind⟩ := hb.ex
  have rr := (Vals.append rv hd)
  have rp := Vals.pick rr π
  obtain ⟨F2, cad2, cs2, ys, rc, rs, hsat⟩ := hc _ _ _ _ _ _ _ (pick π (vs ++ dvs)) r1 ((s1'.append (hs F1 cad1)).pick π) a1
  have hl : (pick π (vs ++ dvs)).length = ps.length := by
    rw [pick_len, hb.len]
    intro i hi
    have := hb.all i hi
    rw [List.length_append, rv.length, List.length_append, l1, l2]
    exact this
  exact T.call hr hg tk I1 (hbind s1 us ws I1.kIn l1 l2) rp hl rc rs hsat
theorem sn_makeG (T : FnD X.prog X.w X.K X.mg X.base P k g f fd ps d) (hT : P.T c = some ci) (hnf : ci.fs.length = nf) (M : Mk X.K ci.C f) (hr : Room (k + 1) X.A) (hg : g = true → X.A.guards = some []) (tk : Takes X W) (hG : Gl X x) (hm : X.mg x = some (.ref ci.C)) (hb : KB X.K fd ps (n + 1) ks (0 :: π) dvs) (hs : RepD P sds dvs)
    (hπ : ∀ i ∈ π, 0 < i) (ha : CallA X P W pos args kws n ks das) (hdb : (x == ("__debug__" : Str)) = false := by decide) : Sn X P W (.Call (.Name x p) args kws pos) (dCall (π.map (· - 1)) sds (mkIns c nf d) das) := by
  refine ⟨fun pins s σ H Q I h => ?_⟩
  refine wpAny_Call_Name_kw (ld_glob I hG hm ?_ hdb)
  obtain ⟨F, cad, st, r, h⟩ := h
  refine ha.run (.ref ci.C) [] X.K.In pins s σ H _ _ (PySem.W.keeps_K M.kp) I (At.rd r (At.bind (R := RepSs P) h)) fun us ws vs s1 H1 I1 l1 l2 rv ⟨F1, cad1, xs, e1, b1, r1, s1', a1⟩ => ⟨I1.kIn, ?_⟩
  obtain ⟨ds, hd, hbind⟩ := hb.ex
  have rr := (Vals.append rv hd)
  have sh : ∀ {α : Type} (y : α) (l : List α), pick (0 :: π) (y :: l) = y :: pick (π.map (· - 1)) l := fun {α} y l => by
    have go : ∀ {ρ : List Nat}, (∀ i ∈ ρ, 0 < i) → pick ρ (y :: l) = pick (ρ.map (· - 1)) l := fun {ρ} hρ => by
      induction ρ with
      | nil => rfl
      | cons i ρ ih =>
        have ih := ih fun j hj => hρ j (List.mem_cons_of_mem _ hj)
        have hi := hρ i List.mem_cons_self
        obtain ⟨j, rfl⟩ : ∃ j, i = j + 1 := ⟨i - 1, by omega⟩
        unfold pick at ih ⊢
        rw [List.map_cons, List.filterMap_cons, List.filterMap_cons, ih]
        simp
    have h0 : pick (0 :: π) (y :: l) = y :: pick π (y :: l) := rfl
    rw [h0, go hπ]
  have rp := Vals.pick rr (π.map (· - 1))
  have hl : (pick (π.map (· - 1)) (vs ++ dvs)).length + 1 = ps.length := by
    rw [pick_len, List.length_map, ← hb.len]
    · rfl
    · intro i hi
      obtain ⟨j, hj, rfl⟩ := List.mem_map.mp hi
      have := hb.all j (List.mem_cons_of_mem _ hj)
      have := hπ j hj
      rw [List.length_append, rv.length, List.length_append, l1, l2]
      omega
  refine run_mk T hT hnf M hr hg tk I1 (fun s' self hk => ?_) rp hl r1 ((s1'.append (hs F1 cad1)).pick _) a1
  have := hbind s' (.ref self :: us) ws hk (by simp [l1]) l2
  have e1 : (Value.ref self :: us) ++ ws ++ ds = .ref self :: (us ++ ws ++ ds) := rfl
  rw [e1, sh] at this
  exact this
def dMethG (c : Nat) (π : List Nat) (od : List SV → DE) (sds : List SV) (da : DE) (das : StE → Out (List SV)) : DE := bindE da fun x => match x with
  | .pv (.ins c' ps) => if c' = c then bindE das fun xs => od (pick π (x :: (xs ++ sds))) else badE
  | _ => badE
theorem sn_methG {pl : Sem Bool} (ho : Sn X P W e da) (hT : P.T c = some ci) (hc : Cls X.K ci.C) (hm : Meth X.K ci.C m f) (hmf : m ∉ ci.fs) (T : FnD X.prog X.w X.K X.mg X.base P k g f fd ps d) (hr : Room k X.A) (hg : g = true → X.A.guards = some []) (tk : Takes X W) (hb : KB X.K fd ps (n + 1) ks π dvs) (hs : RepD P sds dvs)
    (hcd : CallD P W d o) (ha : CallA X P W pos args kws n ks das)
    (ht : eval (.Call (.Attribute e m apos) args kws pos) X.env = (do
      let ov ← eval e X.env
      standAt apos.atName
      let (f, first) ← holding [ov] (getMethod ov m pl)
      callWith pos f first (backTo pos (starEach args X.env)) (backToKw pos (keywordEach kws X.env))) := by rfl) :
    Sn X P W (.Call (.Attribute e m apos) args kws pos) (dMethG c π o sds da das) := by
  refine ⟨fun pins s σ H Q I h => ?_⟩
  obtain ⟨F, cad, st, r, h⟩ := h
  refine PySem.W.methodCall_KW (pl := pl) (thn (ho.run pins s σ H _ I (At.rd r (At.bind (R := RepS P) h))) fun u s1 ⟨x, H1, I1, rx, F1, cad1, sx, e1, b1, r1, s1', a1⟩ => ?_) ht
  dsimp only at a1
  split at a1
  · rename_i c' qs
    split at a1
    · rename_i hcc
      subst hcc
      have s1c := s1'
      obtain ⟨a, ci', dx, vs, rfl, h1, h2, h3, h4⟩ := s1c
      rw [hT] at h1
      cases h1
      cases (show u = Value.ref a from rx)
      refine getmeth_ok I1 (r1.c.sub _ _ h2) hc hm (zip_look_none hmf) ?_
      refine ha.run (.ref f) [.ref a] X.K.In pins s1 σ H1 _ _ (PySem.W.keeps_K hm.kp) I1 (At.rd r1 (At.bind (R := RepSs P) a1)) fun us ws vs' s2 H2 I2 l1 l2 rv ⟨F2, cad2, xs, e2, b2, r2, s2', a2⟩ => ⟨I2.kIn, ?_⟩
      obtain ⟨ds, hd, hbind⟩ := hb.ex
      have rr : Vals (V.ref a :: (vs' ++ dvs)) (Value.ref a :: (us ++ ws ++ ds)) := .cons rfl (Vals.append rv hd)
      obtain ⟨F3, cad3, cs3, ys, rc, rs, hsat⟩ := hcd _ _ _ _ _ _ _ (pick π (V.ref a :: (vs' ++ dvs))) r2 (RepSs.pick (.cons (s1'.le b2.le b2.pre) (s2'.append (hs F2 cad2))) π) a2
      have hl : (pick π (V.ref a :: (vs' ++ dvs))).length = ps.length := by
        rw [pick_len, hb.len]
        intro i hi
        have := hb.all i hi
        rw [List.length_cons, List.length_append, rv.length, List.length_append, l1, l2]
        omega
      exact T.call hr hg tk I2 (hbind s2 (.ref a :: us) ws I2.kIn (by simp [l1]) l2) (Vals.pick rr π) hl rc rs hsat
    · exact a1.elim
  · exact a1.elim
/-- C.m(..), m a classmethod; its class parameter is not looked at -/
theorem sn_cmeth {pl : Sem Bool} {C pr : Addr} {mc : Value} (hG : Gl X x) (hmC : X.mg x = some (.ref C)) (hcr : CRead X.K C mc) (hcm : CMet X.K C mc m pr f) (T : FnD X.prog X.w X.K X.mg X.base P k g f fd ps d) (hr : Room k X.A) (hg : g = true → X.A.guards = some []) (tk : Takes X W) (hb : KB X.K fd ps (n + 1) ks π dvs) (hs : RepD P sds dvs)
    (hcd : CallD P W d o) (ha : CallA X P W pos args kws n ks das) (hdb : (x == ("__debug__" : Str)) = false := by decide)
    (ht : eval (.Call (.Attribute (.Name x p) m apos) args kws pos) X.env = (do
      let ov ← eval (.Name x p) X.env
      standAt apos.atName
      let (f, first) ← holding [ov] (getMethod ov m pl)
      callWith pos f first (backTo pos (starEach args X.env)) (backToKw pos (keywordEach kws X.env))) := by rfl) :
    Sn X P W (.Call (.Attribute (.Name x p) m apos) args kws pos) (dCall π sds (fun xs => o xs) (bindE das fun xs => retE (.pv .any :: xs))) := by
  refine ⟨fun pins s σ H Q I h => ?_⟩
  refine PySem.W.methodCall_KW (pl := pl) (thn ((pe_glob (X := X) (x := x) (v := V.ref C) hG hmC rfl hdb).run pins s σ H (fun v H1 => v = .ref C ∧ H1 = H) I ⟨rfl, rfl⟩) fun u s1 ⟨x, H1, I1, rx, ex, eh⟩ => ?_) ht
  subst ex
  subst eh
  obtain rfl : u = Value.ref C := rx
  refine getmethcm_ok I1 hcr hcm fun s2 I2 => ?_
  obtain ⟨F, cad, st, r, h⟩ := h
  have hb0 := base_none I1 (Nat.le_refl _)
  have h2 : At P (RepSs P) W (bindE das fun xs => retE (SV.pv PV.any :: xs)) F cad st σ H1 (Then P (RepSs P) (RepS P) W (fun xs => o (pick π (xs ++ sds))) F cad σ H1 Q) := At.bind (R := RepSs P) h
  refine ha.run (.ref s1.heap.objs.size) [] (PySem.W.MethP X.K s1.heap.objs.size f (.ref C)) _ s2 σ H1 _ _ (PySem.W.keeps_M hcm.fi) I2 (At.rd r (At.bind (R := RepSs P) h2)) fun us ws vs s3 H3 I3 l1 l2 rv ⟨F2, cad2, xs, e2, b2, r2, s2', a2⟩ => ⟨⟨pin_at I3, I3.kIn⟩, ?_⟩
  have a3 := At.ret (v := V.ref C :: vs) r2 a2 (.cons trivial s2')
  obtain ⟨F4, cad4, xs4, e4, b4, r4, s4, a4⟩ := a3
  obtain ⟨ds, hd, hbind⟩ := hb.ex
  have rr : Vals (V.ref C :: (vs ++ dvs)) (Value.ref C :: (us ++ ws ++ ds)) := .cons rfl (Vals.append rv hd)
  have s4' : RepSs P F4 cad4 (xs4 ++ sds) (V.ref C :: (vs ++ dvs)) := s4.append (hs F4 cad4)
  obtain ⟨F3, cad3, cs3, ys, rc, rs, hsat⟩ := hcd _ _ _ _ _ _ _ (pick π (V.ref C :: (vs ++ dvs))) r4 (RepSs.pick s4' π) a4
  have hl : (pick π (V.ref C :: (vs ++ dvs))).length = ps.length := by
    rw [pick_len, hb.len]
    intro i hi
    have := hb.all i hi
    rw [List.length_cons, List.length_append, rv.length, List.length_append, l1, l2]
    omega
  have I3' := unpin I3
  have run : codeAny (model X.prog X.w) X.A (.call (.ref f) ⟨Value.ref C :: us, ks.zip ws⟩) (CR (L2.CX X.prog X.w) X.stack X.prog X.w H3 s3 Q (fun cls dx H' => W cls dx σ H')) s3 :=
    T.run X.A X.stack s3 H3 ⟨Value.ref C :: us, ks.zip ws⟩ _ _ Q _ hr hg I3'.env0 (hbind s3 (.ref C :: us) ws I3.kIn (by simp [l1]) l2) (Vals.pick rr π) hl ⟨F3, cad3, cs3, ys, rc, rs, hsat⟩
  refine wpAny_call (PySem.W.method_call (pin_at I3) (codeAny_mono run fun oo s' q => ?_))
  rcases oo with er | fl
  · exact tk er s' (XE.of_call I3' (fun _ _ _ z => z) q)
  · cases fl <;> first | exact q.elim | exact I3'.after q
/-! ### global constants; is -/
theorem sn_gI {i : Int} (hG : Gl X x) (hm : ∃ t, X.mg x = some (.int i t)) (hdb : (x == ("__debug__" : Str)) = false := by decide) : Sn X P W (.Name x p) (dC (.int i)) := by
  obtain ⟨t, hm⟩ := hm
  exact PE.imp (pe_glob hG hm (v := .int i) ⟨t, rfl⟩ hdb) fun σ H Q h => Rd.ret h fun _ _ => rfl
theorem sn_gS {z : Str} (hG : Gl X x) (hm : ∃ t, X.mg x = some (.str z t)) (hdb : (x == ("__debug__" : Str)) = false := by decide) : Sn X P W (.Name x p) (dC (.str z)) := by
  obtain ⟨t, hm⟩ := hm
  exact PE.imp (pe_glob hG hm (v := .str z) ⟨t, rfl⟩ hdb) fun σ H Q h => Rd.ret h fun _ _ => rfl
def oIsB (n : Bool) (rest : SV → SV → DE) : SV → SV → DE := fun x y => match x, y with
  | .pv (.bl a), .pv (.bl b) => rBl (if n then !decide (a = b) else decide (a = b))
  | x, y => rest x y
theorem op_isBS {rest : SV → SV → DE} (hr : OpSn X P W (compareOp .Is) rest) : OpSn X P W (compareOp .Is) (oIsB false rest) := by
  intro pins s σ H x y v u Q I rx ry hh
  obtain ⟨F, cad, e, sx, sy, r, s1, s2, a⟩ := hh
  unfold oIsB at a
  split at a
  · cases s1; cases s2
    exact op_is_bl pins s σ H _ _ v u Q I rx ry ⟨_, _, rfl, rfl, At.ret r a rfl⟩
  · exact hr pins s σ H x y v u Q I rx ry ⟨F, cad, e, _, _, r, s1, s2, a⟩
theorem op_isnotBS {rest : SV → SV → DE} (hr : OpSn X P W (compareOp .IsNot) rest) : OpSn X P W (compareOp .IsNot) (oIsB true rest) := by
  intro pins s σ H x y v u Q I rx ry hh
  obtain ⟨F, cad, e, sx, sy, r, s1, s2, a⟩ := hh
  unfold oIsB at a
  split at a
  · cases s1; cases s2
    exact op_isnot_bl pins s σ H _ _ v u Q I rx ry ⟨_, _, rfl, rfl, At.ret r a rfl⟩
  · exact hr pins s σ H x y v u Q I rx ry ⟨F, cad, e, _, _, r, s1, s2, a⟩
end
/-! ### a def, by how it stands behind the top -/
theorem FnD.of_fun {prog : Program} {w : World} {K : PySem.W.Frag} {mg : Str → Option Value} {base : Heap} {P : Pr} {k : Nat} {g : Bool} {x qual : Str} {params : Arguments} {body : List Stmt} {scope : Scope} {dvs : List V} {kws : List (Str × V)} {f : Addr} {fd : FuncData}
    {N ps : List Str} {d : DS} (F : FunD K x qual params body scope dvs kws f fd) (S : FnScope N ps scope)
    (hb : ∀ (cdv : Value) (A : Around) (outer : List Env) (s : Shared) (H : Hp) (E : XK), Room k (A.deeper (envOfC qual scope s.heap.objs.size f cdv)) → (g = true → A.guards = some []) →
      SnSs (cxOf (L2.CX prog w) prog w K mg base N qual scope f cdv A outer s H E) P (fun cls dx _ H' => E cls dx H') body d) : FnD prog w K mg base P (k + 1) g f fd ps (runB N.length d) := by
  obtain ⟨oc, od, dV, kV, doc, pm, an, cdv, ct, osl, rfl, lk, hcd, _, _⟩ := F.ex
  exact FnD.of_body lk hcd S fun A outer s H E hr hg => hb cdv A outer s H E hr hg
theorem FnD.mono {prog : Program} {w : World} {K : PySem.W.Frag} {mg : Str → Option Value} {base : Heap} {P : Pr} {k k' : Nat} {g : Bool} {f : Addr} {fd : FuncData} {ps : List Str} {d : DF} (T : FnD prog w K mg base P k g f fd ps d) (h : k ≤ k') : FnD prog w K mg base P k' true f fd ps d :=
  ⟨fun A outer s H args us vs Q E hr hg => T.run A outer s H args us vs Q E (hr.mono h) (fun _ => hg rfl)⟩
end Sh
namespace Sh
open PySem PySem.Spec PyProof.Rows L2 ClX
/-! # Small things for the printed terms -/
section
variable {X : Cx} {P : Pr} {W : WX} {pos : Pos} {x : Str}
theorem pe_tn {T : String} (hg : Gl X x) (hm : X.mg x = none) (hv : bootBuiltins x = some (.type T)) (hn : x ≠ "__name__" := by decide) (hdb : (x == ("__debug__" : Str)) = false := by decide) : PE X (.Name x pos) (tC (.ty T)) :=
  ⟨fun pins s σ H Q I h => ld_blt I hg hm hv ⟨.ty T, H, I, rfl, h⟩ hn hdb⟩
theorem pe_cn {C : Addr} (hg : Gl X x) (hm : X.mg x = some (.ref C)) (hdb : (x == ("__debug__" : Str)) = false := by decide) : PE X (.Name x pos) (tC (.ref C)) := pe_glob hg hm rfl hdb
end
def ansOf (nb bb ib sb tb lb : Bool) (cb : Nat → Option Bool) : PV → Option Bool
  | .non => some nb
  | .bl _ => some bb
  | .int _ => some ib
  | .str _ => some sb
  | .tup _ => some tb
  | .lst _ => some lb
  | .fz _ => some lb
  | .ins c _ => cb c
  | .any => none
theorem isiOk {P : Pr} {u : Value} {nb bb ib sb tb lb : Bool} {cb : Nat → Option Bool} (h1 : PySem.W.kitOne P.K (.type "NoneType") u = some nb) (h2 : PySem.W.kitOne P.K (.type "bool") u = some bb) (h3 : PySem.W.kitOne P.K (.type "int") u = some ib)
    (h4 : PySem.W.kitOne P.K (.type "str") u = some sb) (h5 : PySem.W.kitOne P.K (.type "tuple") u = some tb) (h6 : PySem.W.kitOne P.K (.type "list") u = some lb) (h7 : ∀ c b, cb c = some b → ∃ ci, P.T c = some ci ∧ PySem.W.kitOne P.K (.ref ci.C) u = some b) : IsiOk P u (ansOf nb bb ib sb tb lb cb) := by
  intro p b h
  cases p <;> first | (cases h; done) | (cases h; first | exact ⟨_, .non, h1⟩ | exact ⟨_, .bl _, h2⟩ | exact ⟨_, .int _, h3⟩ | exact ⟨_, .str _, h4⟩ | exact ⟨_, .tup _, h5⟩ | exact ⟨_, .lst _, h6⟩ | exact ⟨_, .fz _, h6⟩) | skip
  obtain ⟨ci, e1, e2⟩ := h7 _ _ h
  exact ⟨_, .ins _ _ _ e1, e2⟩
theorem isiOkT {P : Pr} {us : List Value} {nb bb ib sb tb lb : Bool} {cb : Nat → Option Bool} (h1 : PySem.W.kitAny P.K (.type "NoneType") us = some nb) (h2 : PySem.W.kitAny P.K (.type "bool") us = some bb) (h3 : PySem.W.kitAny P.K (.type "int") us = some ib)
    (h4 : PySem.W.kitAny P.K (.type "str") us = some sb) (h5 : PySem.W.kitAny P.K (.type "tuple") us = some tb) (h6 : PySem.W.kitAny P.K (.type "list") us = some lb) (h7 : ∀ c b, cb c = some b → ∃ ci, P.T c = some ci ∧ PySem.W.kitAny P.K (.ref ci.C) us = some b) : IsiOkT P us (ansOf nb bb ib sb tb lb cb) := by
  intro p b h
  cases p <;> first | (cases h; done) | (cases h; first | exact ⟨_, .non, h1⟩ | exact ⟨_, .bl _, h2⟩ | exact ⟨_, .int _, h3⟩ | exact ⟨_, .str _, h4⟩ | exact ⟨_, .tup _, h5⟩ | exact ⟨_, .lst _, h6⟩ | exact ⟨_, .fz _, h6⟩) | skip
  obtain ⟨ci, e1, e2⟩ := h7 _ _ h
  exact ⟨_, .ins _ _ _ e1, e2⟩
section
variable {X : Cx} {P : Pr} {W : WX}
theorem cs_abs : CallSn X P W (.builtin "abs") oAbs := .of call_abs ci_abs
theorem cs_max2 (hc : X.calm = true) : CallSn X P W (.builtin "max") oMax2 := .of (call_max2 hc) ci_max2
theorem cs_min2 (hc : X.calm = true) : CallSn X P W (.builtin "min") oMin2 := .of (call_min2 hc) ci_min2
theorem cs_int : CallSn X P W (.type "int") oInt := .of call_int1 ci_int
theorem cs_gcd : CallSn X P W (.builtin "math.gcd") oGcd := .of cr_gcd ci_gcd
theorem cs_divmod : CallSn X P W (.builtin "divmod") oDivmod := .of call_divmod ci_divmod
theorem cs_strI : CallSn X P W (.type "str") oStr := .of call_str_int ci_str
theorem cs_len (hK : X.K = P.K) : CallSn X P W (.builtin "len") oLen := .of (CallR.or call_len_seq call_len_str) (ci_len hK)
theorem cs_all (hc : X.calm = true) : CallSn X P W (.builtin "all") oAll := .of (cr_all hc) ci_all
theorem cs_tuple (hK : X.K = P.K) : CallSn X P W (.type "tuple") oTuple := .of call_tuple_of (ci_tuple hK)
theorem cs_list (hK : X.K = P.K) : CallSn X P W (.type "list") oList := .of call_list_of (ci_list hK)
end
theorem sn_cbF {X : Cx} {P : Pr} {W : WX} {x : Str} {e : Expr} {es : List Expr} {das : StE → Out (List SV)} {p pos : Pos} {id : String} {o : List SV → DE} (hc : CallSn X P W (.builtin id) o) (hg : Gl X x) (hm : X.mg x = some (.builtin id)) (ha : SnA X P W (e :: es) das) (hdb : (x == ("__debug__" : Str)) = false := by decide)
    (he : starEach (e :: es) X.env = (false, eval e X.env) :: starEach es X.env := by rfl) (hpl : (backTo pos (starEach es X.env)).any (·.1) = false := by rfl) : Sn X P W (.Call (.Name x p) (e :: es) [] pos) (bindE das o) := by
  refine ⟨fun pins s σ H Q I ⟨F, cad, st, r, h⟩ => wpAny_Call_Name_kw (ld_glob I hg hm ?_ hdb)⟩
  refine PyProof.Rows.callWith_builtin1 (thn (ha.run pos pins s σ H _ I (At.rd r (At.bind (R := RepSs P) h))) fun us s1 ⟨vs, H1, I1, rv, F1, cad1, xs, e1, b1, r1, s1', a1⟩ => ?_) he hpl
  exact hc pins s1 σ H1 vs us Q I1 rv ⟨F1, cad1, e1, xs, r1, s1', a1⟩
theorem reps3 {P : Pr} {F : Hp} {cad : List Addr} {x y z : SV} {vs : List V} (h : RepSs P F cad [x, y, z] vs) : ∃ v u w, vs = [v, u, w] ∧ RepS P F cad x v ∧ RepS P F cad y u ∧ RepS P F cad z w := by
  cases h with
  | cons h t =>
    cases t with
    | cons h' t =>
      cases t with
      | cons h'' t => cases t; exact ⟨_, _, _, rfl, h, h', h''⟩
/-- a, b, c = x, y, z -/
def sPar3 (i j l : Nat) (das : StE → Out (List SV)) : DS := thenS das fun xs e => match xs with
  | [x, y, z] => .ok .nx (setSl l z (setSl j y (setSl i x e)))
  | _ => .bad
theorem sns_par3 {X : Cx} {P : Pr} {W : WX} {i j l : Nat} {x y z : Str} {a b c : Expr} {das : StE → Out (List SV)} {px py pz pt pos : Pos} {kt k2 pt2} (hc : X.calm = true) (hN : X.N.Nodup) (hi : X.N[i]? = some x) (hj : X.N[j]? = some y) (hl : X.N[l]? = some z) (hij : i ≠ j) (hil : i ≠ l) (hjl : j ≠ l)
    (hx : X.env.scope.names.lookup x = some .local) (hy : X.env.scope.names.lookup y = some .local) (hz : X.env.scope.names.lookup z = some .local) (ha : SnA X P W [a, b, c] das)
    (hw : swappedStores [.Tuple [.Name x px, .Name y py, .Name z pz] kt pt] (.Tuple [a, b, c] k2 pt2) X.env = pure (some [x, y, z]))
    (hs : swapsWithSole [.Tuple [.Name x px, .Name y py, .Name z pz] kt pt] (.Tuple [a, b, c] k2 pt2) pos.line X.env = pure false := by rfl) :
    SnS X P W (.Assign [.Tuple [.Name x px, .Name y py, .Name z pz] kt pt] (.Tuple [a, b, c] k2 pt2) pos) (sPar3 i j l das) := PS.imp (ps_par3 hc hN hi hj hl hij hil hjl hx hy hz ha hw hs) fun D σ H h => by
  obtain ⟨F, cad, e, r, h⟩ := h
  refine At.rd r ((AtS.bind (R := RepSs P) h).mono fun vs H1 ⟨F1, cad1, xs, e1, b, r1, s1, a1⟩ => ?_)
  unfold AtS at a1
  dsimp only at a1
  split at a1
  · obtain ⟨v, u, w, rfl, h1, h2, h3⟩ := reps3 s1
    exact ⟨v, u, w, rfl, a1 _ H1 ⟨F1, cad1, Ext.refl _ _ _, ((r1.set i h1).set j h2).set l h3⟩⟩
  · exact a1.elim
/-! ### a list or a tuple, walked -/
def tySq (K : PySem.W.Frag) (tl : TE) : TI := fun σ H R => tl σ H fun x H1 => (∃ a, x = .ref a ∧ (∃ xs, SqL K H1 a xs) ∧ R (Itl K a) H1) ∨ ∃ a, x = .ref a ∧ (∃ xs, SqT K H1 a xs) ∧ R (Itt K a) H1
theorem pi_any {X : Cx} {tg l : Expr} {tl : TE} (hl : PE X l tl) : PI X tg l (tySq X.K tl) := by
  refine ⟨fun pins s σ H R I h => thn (hl.run pins s σ H _ I h) fun v s1 ⟨x, H1, I1, r1, q1⟩ => ?_⟩
  have fresh : ∀ b ∈ [s1.heap.objs.size], FpOk X pins H1 b := fun b hb => by
    rw [List.mem_singleton.mp hb]
    exact I1.fpOk (Nat.le_refl _) (I1.hok.fresh (Nat.le_refl _))
  rcases q1 with ⟨a, rfl, ⟨xs, hq⟩, q⟩ | ⟨a, rfl, ⟨xs, hq⟩, q⟩
  · cases r1
    obtain ⟨its, _, p, _⟩ := I1.list hq
    exact wpAny_pyIter_list p.isList ⟨_, [s1.heap.objs.size], _, Itl X.K a, H1, rfl, I1.kept (t' := s1.toks) fun _ _ e => Heap.get?_push_of_some _ e, turn_list a _, ⟨_, Heap.get?_push_size _ rfl, rfl, rfl⟩, fresh, q⟩
  · cases r1
    obtain ⟨its, _, p, _⟩ := I1.tuple hq
    exact wpAny_pyIter_tuple (show s1.heap.IsTuple a its.toArray from p) ⟨_, [s1.heap.objs.size], _, Itt X.K a, H1, rfl, I1.kept (t' := s1.toks) fun _ _ e => Heap.get?_push_of_some _ e, turn_tuple a _, ⟨_, Heap.get?_push_size _ rfl, rfl, rfl⟩, fresh, q⟩
def dItemsA (da : DE) : StE → Out (List PV) := bindE da fun x => match x with
  | .pv (.lst ps) => retE ps
  | .pv (.fz ps) => retE ps
  | .pv (.tup ps) => retE ps
  | _ => badE
theorem sni_any {X : Cx} {P : Pr} {W : WX} {tg l : Expr} {da : DE} (hK : X.K = P.K) (ha : Sn X P W l da) : SnI X P W tg l (dItemsA da) := PI.imp (pi_any ha) fun σ H R h => by
  obtain ⟨F, cad, e, r, h⟩ := h
  refine At.rd r ((At.bind (R := RepS P) h).mono fun v H1 ⟨F1, cad1, x, e1, b1, r1, s1, a1⟩ => ?_)
  dsimp only at a1
  split at a1
  · obtain ⟨a, vs, rfl, h1, h2⟩ := s1
    exact .inl ⟨a, rfl, ⟨vs, .inl (.inl (r1.c.sub _ _ h1))⟩, At.ret (R := RItW P) r1 a1 (itw_list hK (fun H l => .inl (.inl (l _ _ h1))) h2)⟩
  · obtain ⟨a, vs, rfl, h1, h2⟩ := s1
    exact .inl ⟨a, rfl, ⟨vs, by rw [hK]; exact SqL.le r1.c.sub h1⟩, At.ret (R := RItW P) r1 a1 (itw_list hK (fun H l => by rw [hK]; exact SqL.le l h1) h2)⟩
  · obtain ⟨a, vs, rfl, h1, h2⟩ := s1
    exact .inr ⟨a, rfl, ⟨vs, by rw [hK]; exact SqT.le r1.c.sub h1⟩, At.ret (R := RItW P) r1 a1 (itw_tup (fun H l => by rw [hK]; exact SqT.le l h1) h2)⟩
  · exact a1.elim
end Sh
namespace Sh
open PySem PySem.Spec PyProof.Rows L2
/-! # The law's head: the def is entered from outside, nothing under way around it -/
section
variable {P : Program} {w : World} {K : PySem.W.Frag} {mg mb : Str → Option Value} {k : Nat} {fa a : Addr} {fd : FuncData} {x : Str} {d : DF} {s1 : Shared} {vs : List Value} {ns : List Int} {PP : Pr}
theorem reps_ints {F : Hp} : ∀ ns : List Int, Reps PP F (ns.map PV.int) (ns.map V.int)
  | [] => rfl
  | n :: ns => ⟨_, _, rfl, rfl, reps_ints ns⟩
/-- H tells no more than the script at a -/
structure Lone (H : Hp) (a : Addr) : Prop where
  one : ∀ b, H b ≠ none → b = a
  kind : ∀ b, H b = none ∨ ∃ o xs, H b = some (.frz o (.lst xs))
theorem enter (hK : PP.K = K) (KX : K.In s1.heap) (hns : s1.heap.Ns mainGlobals mg) (hb : s1.heap.Ns builtinsNs mb) (hbb : ∀ y : Str, y ≠ "__name__" → mb y = bootBuiltins y) (hlim : s1.heap.NoLimit) (hg : s1.gens = #[])
    (ha : s1.heap.get? a = some { cls := .type "list", data := .seq vs.toArray }) (hr : Room k callerA)
    (T : ∀ base : Heap, K.In base → base.Ns mainGlobals mg → FnD P w K mg base PP k true fa fd [x] d) (hbind : ∀ (s : Shared) (u : Value), BindsTo s fd ⟨[u], []⟩ [(x, u)])
    {e : StE} (hd : d [.pv (.fz (ns.map PV.int))] [] = .ok (.pv (.bl true)) e)
    {H : Hp} (lo : Lone H a) (hS : SqL K H a (ns.map V.int)) (hok : HOk P w H s1.heap) (hka : H a ≠ none → K.lookup a = none) :
    codeAny (model P w) callerA (.call (.ref fa) ⟨[.ref a], []⟩) (fun r s' => r = .ok (.ret (.bool true)) ∧ OldK s1.heap s'.heap ∧ s'.os = s1.os ∧ AllBare s'.gens) s1 := by
  -- what isn't told stands in the base
  have seen : ∀ {b : Addr} {o : Obj}, s1.heap.get? b = some o → H b = none → (hidT s1.heap H).get? b = some o := fun z n => hidT_get z n
  have dicts : ∀ {b : Addr} {m : Str → Option Value}, s1.heap.Ns b m → (hidT s1.heap H).Ns b m := fun {b m} ⟨o, es, ep, z, dd, rest⟩ => by
    refine ⟨o, es, ep, seen z ?_, dd, rest⟩
    rcases Option.eq_none_or_eq_some (H b) with q | ⟨u, q⟩
    · exact q
    · have := lo.one b (by rw [q]; exact Option.some_ne_none _)
      rw [this, ha] at z
      cases z
      cases (show Data.seq vs.toArray _ = Data.dict es ep from dd)
  have own : K.In (hidT s1.heap H) := fun b o z => seen (KX b o z) (by
    rcases Option.eq_none_or_eq_some (H b) with q | ⟨u, q⟩
    · exact q
    · have hba := lo.one b (by rw [q]; exact Option.some_ne_none _)
      subst hba
      rw [hka (by rw [q]; exact Option.some_ne_none _)] at z
      cases z)
  obtain ⟨mc, l1, l2⟩ := hlim
  have top : Mod K mg (hidT s1.heap H) := ⟨own, dicts hns, ⟨mb, dicts hb, hbb⟩, mc, dicts l1, l2⟩
  have env : Env0 P w K mg (hidT s1.heap H) callerA [] s1 H := ⟨rfl, top, fun _ _ z => of_hidT z, Nat.le_of_eq (hidT_size _ _), trivial, fun b z => absurd (show b ∈ ([] : List Addr) from z) (by simp), hok, .of_eq hg⟩
  refine codeAny_mono ((T _ own (dicts hns)).run callerA [] s1 H ⟨[.ref a], []⟩ [.ref a] [.ref a] (fun v _ => v = .bl true) (fun _ _ _ => False) hr (fun _ => rfl) env (hbind s1 (.ref a)) (.cons rfl .nil) rfl
    ⟨H, [], [], [.pv (.fz (ns.map PV.int))], relc_none (Le.refl H), .cons ⟨a, _, rfl, by rw [hK]; exact hS, reps_ints ns⟩ .nil, ?_⟩) fun r s' z => ?_
  · rw [hd]
    rintro v H' ⟨_, _, _, _, sv⟩
    exact sv
  · rcases r with er | fl
    · obtain ⟨_, _, _, _, _, _, _, _, _, _, _, _, no⟩ := z
      exact no.elim
    · cases fl <;> first | exact False.elim z | skip
      rename_i u
      obtain ⟨v, H', os, bare, un, hok', rv, hv⟩ := z
      have hv' : v = .bl true := hv
      subst hv'
      obtain rfl : u = Value.bool true := rv
      refine ⟨rfl, OldK.of_keep fun b o z => ?_, os, bare⟩
      rcases lo.kind b with q | ⟨ob, xs, q⟩
      · exact un.keep b o z q (fun y => absurd (show b ∈ ([] : List Addr) from y) (by simp)) (by simp)
      · obtain ⟨g1, _⟩ := hok b _ q
        obtain ⟨g2, _⟩ := hok' b _ (un.frzs b ob _ q)
        rw [z] at g1
        cases g1
        exact g2
theorem enter_law (hK : PP.K = K) (KX : K.In s1.heap) (hns : s1.heap.Ns mainGlobals mg) (hb : s1.heap.Ns builtinsNs mb) (hbb : ∀ y : Str, y ≠ "__name__" → mb y = bootBuiltins y) (hlim : s1.heap.NoLimit) (hg : s1.gens = #[])
    (ha : s1.heap.get? a = some { cls := .type "list", data := .seq vs.toArray }) (hi : IntsAre vs ns) (hl : ns.length ≤ sizeLine) (hr : Room k callerA)
    (T : ∀ base : Heap, K.In base → base.Ns mainGlobals mg → FnD P w K mg base PP k true fa fd [x] d) (hbind : ∀ (s : Shared) (u : Value), BindsTo s fd ⟨[u], []⟩ [(x, u)])
    {e : StE} (hd : d [.pv (.fz (ns.map PV.int))] [] = .ok (.pv (.bl true)) e) :
    codeAny (model P w) callerA (.call (.ref fa) ⟨[.ref a], []⟩) (fun r s' => r = .ok (.ret (.bool true)) ∧ OldK s1.heap s'.heap ∧ s'.os = s1.os ∧ AllBare s'.gens) s1 := by
  have rv := vals_ints hi
  have sz : (ns.map V.int).length ≤ sizeLine := by rw [List.length_map]; exact hl
  rcases Option.eq_none_or_eq_some (K.lookup a) with hk | ⟨o, hk⟩
  · -- it is the script that was handed in: told, as it stands
    have told : (fun b => if b = a then some (HO.frz { cls := .type "list", data := .seq vs.toArray } (.lst (ns.map V.int))) else none : Hp) a = some (.frz { cls := .type "list", data := .seq vs.toArray } (.lst (ns.map V.int))) := if_pos rfl
    refine enter (H := fun b => if b = a then some (.frz { cls := .type "list", data := .seq vs.toArray } (.lst (ns.map V.int))) else none) hK KX hns hb hbb hlim hg ha hr T hbind hd ⟨fun b z => ?_, fun b => ?_⟩ (.inl (.inr ⟨_, told⟩)) (fun b u z => ?_) fun _ => hk
    · by_cases q : b = a
      · exact q
      · exact absurd (if_neg q) z
    · by_cases q : b = a
      · exact .inr ⟨_, _, if_pos q⟩
      · exact .inl (if_neg q)
    · by_cases q : b = a
      · subst q
        have z := told.symm.trans z
        cases z
        exact ⟨ha, sz, vs, _, rv, ha⟩
      · have z : (none : Option HO) = some u := (if_neg q).symm.trans z
        cases z
  · -- an object of the module itself
    have z := KX a o hk
    rw [ha] at z
    cases z
    refine enter (H := fun _ => none) hK KX hns hb hbb hlim hg ha hr T hbind hd ⟨fun b z => absurd rfl z, fun _ => .inl rfl⟩ (.inr ⟨_, vs.toArray, _, hk, rfl, rfl, rfl, by rw [List.size_toArray, hi.length]; exact hl, by simpa using rv⟩) (fun b u z => ?_) fun z => absurd rfl z
    cases (show (none : Option HO) = some u from z)
end
/-- a law, from what its def computes -/
theorem law_walk {l : PySem.W.OpenLaw} {n k : Nat} {q : Program} {loose : List Str} {XP : (Str → Option Value) → Heap → Prop} {YP : World → Heap → Prop} {dr : DefRec} {K : Params → PySem.W.Frag} {x : Str} {d : DF}
    (hn : l.most = some n) (hn2 : n ≤ sizeLine) (hdf : dr.params.defaults = []) (hr : Room k callerA) (hY : ∀ (w : World) (h : Heap), YP w h → (K w.params).In h)
    (F : ∀ (w : World) (mg : Str → Option Value) (fa : Addr) (h : Heap), (K w.params).In h → h.Ns mainGlobals mg → mg dr.name = some (.ref fa) →
      ∃ (fd : FuncData) (PP : Pr), PP.K = K w.params ∧ (∀ (s : Shared) (u : Value), BindsTo s fd ⟨[u], []⟩ [(x, u)]) ∧
        ∀ base : Heap, (K w.params).In base → base.Ns mainGlobals mg → FnD l.prog w (K w.params) mg base PP k true fa fd [x] d)
    (hd : ∀ ns : List Int, ns.length ≤ n → ∃ e, d [.pv (.fz (ns.map PV.int))] [] = .ok (.pv (.bl true)) e) :
    PySem.W.WalkO q loose XP YP l.row.toRowW dr [] (fun f vs => PySem.call f vs) := by
  refine Att.attach_call hn hdf fun w s0 s1 mg mb fa o pm cd doc a vs ns G Y ho hdd hcd hmg hobj hints hlen hg => ?_
  obtain ⟨fd, PP, hK, hb, hF⟩ := F w mg fa _ (hY w _ Y) G.T.g hmg
  obtain ⟨e, he⟩ := hd ns hlen
  exact enter_law hK (hY w _ Y) G.T.g G.T.b G.T.builtins G.T.nolimit hg hobj hints (Nat.le_trans hlen hn2) hr hF hb he
/-! ### isinstance by own classes -/
section
variable {K : PySem.W.Frag} {t : Value} {C D : Addr} {b : Bool} {T T1 T2 : String}
theorem kit_in (h1 : PySem.W.isClsIn K C = true) (h2 : PySem.W.typeIn K (.ref C) = some (.type "type")) (hne : (t == Value.ref C) = false) (h : PySem.W.subIn K t (.ref C) = some b) : PySem.W.kitOne K t (.ref C) = some b := by
  have h1' : (PySem.W.clsIn K C).isSome = true := h1
  unfold PySem.W.kitOne PySem.W.kitCls
  rw [hne, if_neg Bool.false_ne_true]
  dsimp only
  rw [h1', h2, if_pos (by rfl)]
  exact h
theorem ty_ne_ref : (Value.type T == Value.ref C) = false := Bool.eq_false_iff.mpr fun q => by cases beq_iff_eq.mp q
theorem kit_self : PySem.W.kitOne K t t = some true := by
  unfold PySem.W.kitOne
  rw [if_pos (by simp)]
theorem kit_out (hm : PySem.W.kitMeta T = true) (h : PySem.W.subIn K (.ref C) (.type T) = some b) : PySem.W.kitOne K (.ref C) (.type T) = some b := by
  unfold PySem.W.kitOne PySem.W.kitCls
  rw [if_neg (by intro z; cases beq_iff_eq.mp z)]
  dsimp only
  rw [hm, if_pos rfl]
  exact h
theorem kit_out2 (m1 : PySem.W.kitMeta T1 = true) (h1 : PySem.W.subIn K (.ref C) (.type T1) = some false) (m2 : PySem.W.kitMeta T2 = true) (h2 : PySem.W.subIn K (.ref C) (.type T2) = some false) : PySem.W.kitAny K (.ref C) [.type T1, .type T2] = some false := by
  unfold PySem.W.kitAny
  rw [kit_out m1 h1]
  dsimp only
  unfold PySem.W.kitAny
  rw [kit_out m2 h2]
  rfl
end
end Sh
namespace Sh.Law
open PySem PySem.Spec PyProof.Rows L2 ClX Sh
def top (i : Nat) : Stmt := PySem.Challenge.pw_surerwalks_k11_whole_numbers_reckoned.main.body.getD i (.Pass ⟨0, 0, 0, 0⟩)
abbrev s_Ratio___eq__ : Stmt := inClass (top 12) 17
abbrev s_divisor_of : Stmt := top 11
abbrev s_is_integer : Stmt := top 6
abbrev s_Ratio___init__ : Stmt := inClass (top 12) 0
abbrev s_Ratio_size : Stmt := inClass (top 12) 14
abbrev s_Ratio_bottom : Stmt := inClass (top 12) 2
abbrev s_Ratio_top : Stmt := inClass (top 12) 1
abbrev s_digits_of : Stmt := top 10
abbrev s_Ratio___repr__ : Stmt := inClass (top 12) 19
abbrev s_Ratio_is_whole : Stmt := inClass (top 12) 4
abbrev s_told_pair : Stmt := top 13
abbrev s_Ratio___sub__ : Stmt := inClass (top 12) 8
abbrev s_Ratio___rsub__ : Stmt := inClass (top 12) 9
abbrev s_Ratio_sign : Stmt := inClass (top 12) 3
abbrev s_Ratio___add__ : Stmt := inClass (top 12) 6
abbrev s_Ratio___radd__ : Stmt := inClass (top 12) 7
abbrev s_Ratio___str__ : Stmt := inClass (top 12) 18
abbrev s__law_common : Stmt := top 25
abbrev s_Ratio___mul__ : Stmt := inClass (top 12) 10
abbrev s_Ratio___rmul__ : Stmt := inClass (top 12) 11
abbrev s__law_is : Stmt := top 26
abbrev s_total_of : Stmt := top 17
abbrev s_ratio_of : Stmt := top 15
abbrev s_is_number : Stmt := top 14
abbrev s_want_number : Stmt := top 16
abbrev s_is_list : Stmt := top 7
abbrev s_Ratio_total : Stmt := inClass (top 12) 5
abbrev s__law_draw : Stmt := top 20
abbrev s__law_whole : Stmt := top 23
abbrev s__law_pick : Stmt := top 21
abbrev s__law_total_right : Stmt := top 29
abbrev s_Ratio_is_at_most : Stmt := inClass (top 12) 16
abbrev s_Ratio_is_below : Stmt := inClass (top 12) 15
abbrev s_Ratio_over : Stmt := inClass (top 12) 13
abbrev s__law_whole_right : Stmt := top 28
abbrev s_Ratio___neg__ : Stmt := inClass (top 12) 12
abbrev s__law_two_right : Stmt := top 27
abbrev s__law_top : Stmt := top 22
abbrev s__law_pair : Stmt := top 24
abbrev s__law_pot : Stmt := top 19
abbrev s_law : Stmt := top 30
/-- where the classes and defs stand -/
structure AD where
  C_Ratio : Addr
  f_Ratio___eq__ : Addr
  fd_Ratio___eq__ : FuncData
  f_divisor_of : Addr
  fd_divisor_of : FuncData
  f_is_integer : Addr
  fd_is_integer : FuncData
  f_Ratio___init__ : Addr
  fd_Ratio___init__ : FuncData
  f_Ratio_size : Addr
  fd_Ratio_size : FuncData
  f_Ratio_bottom : Addr
  fd_Ratio_bottom : FuncData
  p_Ratio_bottom : Addr
  f_Ratio_top : Addr
  fd_Ratio_top : FuncData
  p_Ratio_top : Addr
  f_digits_of : Addr
  fd_digits_of : FuncData
  f_Ratio___repr__ : Addr
  fd_Ratio___repr__ : FuncData
  f_Ratio_is_whole : Addr
  fd_Ratio_is_whole : FuncData
  p_Ratio_is_whole : Addr
  f_told_pair : Addr
  fd_told_pair : FuncData
  f_Ratio___sub__ : Addr
  fd_Ratio___sub__ : FuncData
  f_Ratio___rsub__ : Addr
  fd_Ratio___rsub__ : FuncData
  f_Ratio_sign : Addr
  fd_Ratio_sign : FuncData
  p_Ratio_sign : Addr
  f_Ratio___add__ : Addr
  fd_Ratio___add__ : FuncData
  f_Ratio___radd__ : Addr
  fd_Ratio___radd__ : FuncData
  f_Ratio___str__ : Addr
  fd_Ratio___str__ : FuncData
  f__law_common : Addr
  fd__law_common : FuncData
  f_Ratio___mul__ : Addr
  fd_Ratio___mul__ : FuncData
  f_Ratio___rmul__ : Addr
  fd_Ratio___rmul__ : FuncData
  f__law_is : Addr
  fd__law_is : FuncData
  f_total_of : Addr
  fd_total_of : FuncData
  f_ratio_of : Addr
  fd_ratio_of : FuncData
  f_is_number : Addr
  fd_is_number : FuncData
  f_want_number : Addr
  fd_want_number : FuncData
  f_is_list : Addr
  fd_is_list : FuncData
  f_Ratio_total : Addr
  fd_Ratio_total : FuncData
  p_Ratio_total : Addr
  f__law_draw : Addr
  fd__law_draw : FuncData
  f__law_whole : Addr
  fd__law_whole : FuncData
  f__law_pick : Addr
  fd__law_pick : FuncData
  f__law_total_right : Addr
  fd__law_total_right : FuncData
  f_Ratio_is_at_most : Addr
  fd_Ratio_is_at_most : FuncData
  f_Ratio_is_below : Addr
  fd_Ratio_is_below : FuncData
  f_Ratio_over : Addr
  fd_Ratio_over : FuncData
  f__law_whole_right : Addr
  fd__law_whole_right : FuncData
  f_Ratio___neg__ : Addr
  fd_Ratio___neg__ : FuncData
  f__law_two_right : Addr
  fd__law_two_right : FuncData
  f__law_top : Addr
  fd__law_top : FuncData
  f__law_pair : Addr
  fd__law_pair : FuncData
  f__law_pot : Addr
  fd__law_pot : FuncData
  f_law : Addr
  fd_law : FuncData
def ctab (a : AD) : CT := fun c => match c with
  | 0 => some ⟨a.C_Ratio, ["own_top", "own_bottom"]⟩
  | _ => none
theorem nd_Ratio : (["own_top", "own_bottom"] : List Str).Nodup := by decide +kernel
def PR (K : PySem.W.Frag) (a : AD) : Pr := ⟨K, ctab a⟩
/-- what the top has written -/
structure PF (K : PySem.W.Frag) (mg : Str → Option Value) (a : AD) : Prop where
  F_Ratio___eq__ : FunD K "__eq__" "Ratio.__eq__" (defArgs s_Ratio___eq__) (defBody s_Ratio___eq__) (defScope s_Ratio___eq__) [] [] a.f_Ratio___eq__ a.fd_Ratio___eq__
  m_Ratio___eq__ : Meth K a.C_Ratio "__eq__" a.f_Ratio___eq__
  F_divisor_of : FunD K "divisor_of" "divisor_of" (defArgs s_divisor_of) (defBody s_divisor_of) (defScope s_divisor_of) [] [] a.f_divisor_of a.fd_divisor_of
  g_divisor_of : mg "divisor_of" = some (.ref a.f_divisor_of)
  F_is_integer : FunD K "is_integer" "is_integer" (defArgs s_is_integer) (defBody s_is_integer) (defScope s_is_integer) [] [] a.f_is_integer a.fd_is_integer
  g_is_integer : mg "is_integer" = some (.ref a.f_is_integer)
  F_Ratio___init__ : FunD K "__init__" "Ratio.__init__" (defArgs s_Ratio___init__) (defBody s_Ratio___init__) (defScope s_Ratio___init__) [V.int 1] [] a.f_Ratio___init__ a.fd_Ratio___init__
  F_Ratio_size : FunD K "size" "Ratio.size" (defArgs s_Ratio_size) (defBody s_Ratio_size) (defScope s_Ratio_size) [] [] a.f_Ratio_size a.fd_Ratio_size
  m_Ratio_size : Meth K a.C_Ratio "size" a.f_Ratio_size
  F_Ratio_bottom : FunD K "bottom" "Ratio.bottom" (defArgs s_Ratio_bottom) (defBody s_Ratio_bottom) (defScope s_Ratio_bottom) [] [] a.f_Ratio_bottom a.fd_Ratio_bottom
  p_Ratio_bottom : PropOf K a.C_Ratio "bottom" a.p_Ratio_bottom a.f_Ratio_bottom
  F_Ratio_top : FunD K "top" "Ratio.top" (defArgs s_Ratio_top) (defBody s_Ratio_top) (defScope s_Ratio_top) [] [] a.f_Ratio_top a.fd_Ratio_top
  p_Ratio_top : PropOf K a.C_Ratio "top" a.p_Ratio_top a.f_Ratio_top
  F_digits_of : FunD K "digits_of" "digits_of" (defArgs s_digits_of) (defBody s_digits_of) (defScope s_digits_of) [] [] a.f_digits_of a.fd_digits_of
  g_digits_of : mg "digits_of" = some (.ref a.f_digits_of)
  F_Ratio___repr__ : FunD K "__repr__" "Ratio.__repr__" (defArgs s_Ratio___repr__) (defBody s_Ratio___repr__) (defScope s_Ratio___repr__) [] [] a.f_Ratio___repr__ a.fd_Ratio___repr__
  m_Ratio___repr__ : Meth K a.C_Ratio "__repr__" a.f_Ratio___repr__
  F_Ratio_is_whole : FunD K "is_whole" "Ratio.is_whole" (defArgs s_Ratio_is_whole) (defBody s_Ratio_is_whole) (defScope s_Ratio_is_whole) [] [] a.f_Ratio_is_whole a.fd_Ratio_is_whole
  p_Ratio_is_whole : PropOf K a.C_Ratio "is_whole" a.p_Ratio_is_whole a.f_Ratio_is_whole
  F_told_pair : FunD K "told_pair" "told_pair" (defArgs s_told_pair) (defBody s_told_pair) (defScope s_told_pair) [] [] a.f_told_pair a.fd_told_pair
  g_told_pair : mg "told_pair" = some (.ref a.f_told_pair)
  F_Ratio___sub__ : FunD K "__sub__" "Ratio.__sub__" (defArgs s_Ratio___sub__) (defBody s_Ratio___sub__) (defScope s_Ratio___sub__) [] [] a.f_Ratio___sub__ a.fd_Ratio___sub__
  m_Ratio___sub__ : Meth K a.C_Ratio "__sub__" a.f_Ratio___sub__
  F_Ratio___rsub__ : FunD K "__rsub__" "Ratio.__rsub__" (defArgs s_Ratio___rsub__) (defBody s_Ratio___rsub__) (defScope s_Ratio___rsub__) [] [] a.f_Ratio___rsub__ a.fd_Ratio___rsub__
  m_Ratio___rsub__ : Meth K a.C_Ratio "__rsub__" a.f_Ratio___rsub__
  F_Ratio_sign : FunD K "sign" "Ratio.sign" (defArgs s_Ratio_sign) (defBody s_Ratio_sign) (defScope s_Ratio_sign) [] [] a.f_Ratio_sign a.fd_Ratio_sign
  p_Ratio_sign : PropOf K a.C_Ratio "sign" a.p_Ratio_sign a.f_Ratio_sign
  F_Ratio___add__ : FunD K "__add__" "Ratio.__add__" (defArgs s_Ratio___add__) (defBody s_Ratio___add__) (defScope s_Ratio___add__) [] [] a.f_Ratio___add__ a.fd_Ratio___add__
  m_Ratio___add__ : Meth K a.C_Ratio "__add__" a.f_Ratio___add__
  F_Ratio___radd__ : FunD K "__radd__" "Ratio.__radd__" (defArgs s_Ratio___radd__) (defBody s_Ratio___radd__) (defScope s_Ratio___radd__) [] [] a.f_Ratio___radd__ a.fd_Ratio___radd__
  m_Ratio___radd__ : Meth K a.C_Ratio "__radd__" a.f_Ratio___radd__
  F_Ratio___str__ : FunD K "__str__" "Ratio.__str__" (defArgs s_Ratio___str__) (defBody s_Ratio___str__) (defScope s_Ratio___str__) [] [] a.f_Ratio___str__ a.fd_Ratio___str__
  m_Ratio___str__ : Meth K a.C_Ratio "__str__" a.f_Ratio___str__
  F__law_common : FunD K "_law_common" "_law_common" (defArgs s__law_common) (defBody s__law_common) (defScope s__law_common) [] [] a.f__law_common a.fd__law_common
  g__law_common : mg "_law_common" = some (.ref a.f__law_common)
  F_Ratio___mul__ : FunD K "__mul__" "Ratio.__mul__" (defArgs s_Ratio___mul__) (defBody s_Ratio___mul__) (defScope s_Ratio___mul__) [] [] a.f_Ratio___mul__ a.fd_Ratio___mul__
  m_Ratio___mul__ : Meth K a.C_Ratio "__mul__" a.f_Ratio___mul__
  F_Ratio___rmul__ : FunD K "__rmul__" "Ratio.__rmul__" (defArgs s_Ratio___rmul__) (defBody s_Ratio___rmul__) (defScope s_Ratio___rmul__) [] [] a.f_Ratio___rmul__ a.fd_Ratio___rmul__
  m_Ratio___rmul__ : Meth K a.C_Ratio "__rmul__" a.f_Ratio___rmul__
  F__law_is : FunD K "_law_is" "_law_is" (defArgs s__law_is) (defBody s__law_is) (defScope s__law_is) [] [] a.f__law_is a.fd__law_is
  g__law_is : mg "_law_is" = some (.ref a.f__law_is)
  F_total_of : FunD K "total_of" "total_of" (defArgs s_total_of) (defBody s_total_of) (defScope s_total_of) [] [] a.f_total_of a.fd_total_of
  g_total_of : mg "total_of" = some (.ref a.f_total_of)
  F_ratio_of : FunD K "ratio_of" "ratio_of" (defArgs s_ratio_of) (defBody s_ratio_of) (defScope s_ratio_of) [] [] a.f_ratio_of a.fd_ratio_of
  g_ratio_of : mg "ratio_of" = some (.ref a.f_ratio_of)
  F_is_number : FunD K "is_number" "is_number" (defArgs s_is_number) (defBody s_is_number) (defScope s_is_number) [] [] a.f_is_number a.fd_is_number
  g_is_number : mg "is_number" = some (.ref a.f_is_number)
  F_want_number : FunD K "want_number" "want_number" (defArgs s_want_number) (defBody s_want_number) (defScope s_want_number) [] [] a.f_want_number a.fd_want_number
  g_want_number : mg "want_number" = some (.ref a.f_want_number)
  F_is_list : FunD K "is_list" "is_list" (defArgs s_is_list) (defBody s_is_list) (defScope s_is_list) [] [] a.f_is_list a.fd_is_list
  g_is_list : mg "is_list" = some (.ref a.f_is_list)
  F_Ratio_total : FunD K "total" "Ratio.total" (defArgs s_Ratio_total) (defBody s_Ratio_total) (defScope s_Ratio_total) [] [] a.f_Ratio_total a.fd_Ratio_total
  cm_Ratio_total : CMet K a.C_Ratio (.type "type") "total" a.p_Ratio_total a.f_Ratio_total
  F__law_draw : FunD K "_law_draw" "_law_draw" (defArgs s__law_draw) (defBody s__law_draw) (defScope s__law_draw) [] [] a.f__law_draw a.fd__law_draw
  g__law_draw : mg "_law_draw" = some (.ref a.f__law_draw)
  F__law_whole : FunD K "_law_whole" "_law_whole" (defArgs s__law_whole) (defBody s__law_whole) (defScope s__law_whole) [] [] a.f__law_whole a.fd__law_whole
  g__law_whole : mg "_law_whole" = some (.ref a.f__law_whole)
  F__law_pick : FunD K "_law_pick" "_law_pick" (defArgs s__law_pick) (defBody s__law_pick) (defScope s__law_pick) [] [] a.f__law_pick a.fd__law_pick
  g__law_pick : mg "_law_pick" = some (.ref a.f__law_pick)
  F__law_total_right : FunD K "_law_total_right" "_law_total_right" (defArgs s__law_total_right) (defBody s__law_total_right) (defScope s__law_total_right) [] [] a.f__law_total_right a.fd__law_total_right
  g__law_total_right : mg "_law_total_right" = some (.ref a.f__law_total_right)
  F_Ratio_is_at_most : FunD K "is_at_most" "Ratio.is_at_most" (defArgs s_Ratio_is_at_most) (defBody s_Ratio_is_at_most) (defScope s_Ratio_is_at_most) [] [] a.f_Ratio_is_at_most a.fd_Ratio_is_at_most
  m_Ratio_is_at_most : Meth K a.C_Ratio "is_at_most" a.f_Ratio_is_at_most
  F_Ratio_is_below : FunD K "is_below" "Ratio.is_below" (defArgs s_Ratio_is_below) (defBody s_Ratio_is_below) (defScope s_Ratio_is_below) [] [] a.f_Ratio_is_below a.fd_Ratio_is_below
  m_Ratio_is_below : Meth K a.C_Ratio "is_below" a.f_Ratio_is_below
  F_Ratio_over : FunD K "over" "Ratio.over" (defArgs s_Ratio_over) (defBody s_Ratio_over) (defScope s_Ratio_over) [] [] a.f_Ratio_over a.fd_Ratio_over
  m_Ratio_over : Meth K a.C_Ratio "over" a.f_Ratio_over
  F__law_whole_right : FunD K "_law_whole_right" "_law_whole_right" (defArgs s__law_whole_right) (defBody s__law_whole_right) (defScope s__law_whole_right) [] [] a.f__law_whole_right a.fd__law_whole_right
  g__law_whole_right : mg "_law_whole_right" = some (.ref a.f__law_whole_right)
  F_Ratio___neg__ : FunD K "__neg__" "Ratio.__neg__" (defArgs s_Ratio___neg__) (defBody s_Ratio___neg__) (defScope s_Ratio___neg__) [] [] a.f_Ratio___neg__ a.fd_Ratio___neg__
  m_Ratio___neg__ : Meth K a.C_Ratio "__neg__" a.f_Ratio___neg__
  F__law_two_right : FunD K "_law_two_right" "_law_two_right" (defArgs s__law_two_right) (defBody s__law_two_right) (defScope s__law_two_right) [] [] a.f__law_two_right a.fd__law_two_right
  g__law_two_right : mg "_law_two_right" = some (.ref a.f__law_two_right)
  F__law_top : FunD K "_law_top" "_law_top" (defArgs s__law_top) (defBody s__law_top) (defScope s__law_top) [] [] a.f__law_top a.fd__law_top
  g__law_top : mg "_law_top" = some (.ref a.f__law_top)
  F__law_pair : FunD K "_law_pair" "_law_pair" (defArgs s__law_pair) (defBody s__law_pair) (defScope s__law_pair) [] [] a.f__law_pair a.fd__law_pair
  g__law_pair : mg "_law_pair" = some (.ref a.f__law_pair)
  F__law_pot : FunD K "_law_pot" "_law_pot" (defArgs s__law_pot) (defBody s__law_pot) (defScope s__law_pot) [] [] a.f__law_pot a.fd__law_pot
  g__law_pot : mg "_law_pot" = some (.ref a.f__law_pot)
  F_law : FunD K "law" "law" (defArgs s_law) (defBody s_law) (defScope s_law) [] [] a.f_law a.fd_law
  g_law : mg "law" = some (.ref a.f_law)
  gm_Ratio : mg "Ratio" = some (.ref a.C_Ratio)
  cls_Ratio : Cls K a.C_Ratio
  clf_Ratio : ClsF K a.C_Ratio
  mk_Ratio : Mk K a.C_Ratio a.f_Ratio___init__
  na_Ratio_own_top : NoAttr K a.C_Ratio "own_top"
  na_Ratio_own_bottom : NoAttr K a.C_Ratio "own_bottom"
  op_Ratio_add : OpF K a.C_Ratio "add" a.f_Ratio___add__ a.f_Ratio___radd__
  op_Ratio_sub : OpF K a.C_Ratio "sub" a.f_Ratio___sub__ a.f_Ratio___rsub__
  op_Ratio_mul : OpF K a.C_Ratio "mul" a.f_Ratio___mul__ a.f_Ratio___rmul__
  eq_Ratio : EqF K a.C_Ratio a.f_Ratio___eq__
  neg_Ratio : PySem.W.findIn K (.ref a.C_Ratio) "__neg__" = some (some (.ref a.f_Ratio___neg__))
  negf_Ratio : PySem.W.isFn K (.ref a.f_Ratio___neg__) = true
  str_Ratio : PySem.W.findIn K (.ref a.C_Ratio) "__str__" = some (some (.ref a.f_Ratio___str__))
  strf_Ratio : PySem.W.isFn K (.ref a.f_Ratio___str__) = true
  repr_Ratio : PySem.W.findIn K (.ref a.C_Ratio) "__repr__" = some (some (.ref a.f_Ratio___repr__))
  reprf_Ratio : PySem.W.isFn K (.ref a.f_Ratio___repr__) = true
  cr_Ratio : CRead K a.C_Ratio (.type "type")
  b_isinstance : mg "isinstance" = none
  b_bool : mg "bool" = none
  b_int : mg "int" = none
  b_abs : mg "abs" = none
  c_PART : ∃ t, mg "PART" = some (.int 1000000000000000000000000000000000000000000000000000000000000 t)
  b_str : mg "str" = none
  b_repr : mg "repr" = none
  b_list : mg "list" = none
  b_tuple : mg "tuple" = none
  b_divmod : mg "divmod" = none
  b_len : mg "len" = none
  b_range : mg "range" = none
  b_max : mg "max" = none
  b_all : mg "all" = none
  i_gcd : mg "gcd" = some (.builtin "math.gcd")
  kisi_Ratio_NoneType : PySem.W.kitOne K (.type "NoneType") (.ref a.C_Ratio) = some false
  kisi_Ratio_bool : PySem.W.kitOne K (.type "bool") (.ref a.C_Ratio) = some false
  kisi_Ratio_int : PySem.W.kitOne K (.type "int") (.ref a.C_Ratio) = some false
  kisi_Ratio_str : PySem.W.kitOne K (.type "str") (.ref a.C_Ratio) = some false
  kisi_Ratio_tuple : PySem.W.kitOne K (.type "tuple") (.ref a.C_Ratio) = some false
  kisi_Ratio_list : PySem.W.kitOne K (.type "list") (.ref a.C_Ratio) = some false
  kisi_Ratio_Ratio : PySem.W.kitOne K (.ref a.C_Ratio) (.ref a.C_Ratio) = some true
  kisi_bool_Ratio : PySem.W.kitOne K (.ref a.C_Ratio) (.type "bool") = some false
  kisi_int_Ratio : PySem.W.kitOne K (.ref a.C_Ratio) (.type "int") = some false
  kisi_list_tuple_Ratio : PySem.W.kitAny K (.ref a.C_Ratio) ([.type "list", .type "tuple"]) = some false
section
variable {prog : Program} {w : World} {K : PySem.W.Frag} {mg : Str → Option Value} {base : Heap} {a : AD}
theorem clsAll (F : PF K mg a) : ∀ c ci, (PR K a).T c = some ci → ClsF (PR K a).K ci.C := by
  intro c ci h
  show ClsF K ci.C
  change ctab a c = some ci at h
  unfold ctab at h
  split at h
  · cases h; exact F.clf_Ratio
  · cases h
def aisi_Ratio : PV → Option Bool := ansOf false false false false false false (fun c => match c with | 0 => some true | _ => none)
theorem isi_Ratio (F : PF K mg a) : IsiOk (PR K a) (.ref a.C_Ratio) aisi_Ratio := isiOk F.kisi_Ratio_NoneType F.kisi_Ratio_bool F.kisi_Ratio_int F.kisi_Ratio_str F.kisi_Ratio_tuple F.kisi_Ratio_list (by
  intro c b h
  split at h
  · cases h; exact ⟨_, rfl, F.kisi_Ratio_Ratio⟩
  · cases h)
def aisi_bool : PV → Option Bool := ansOf false true false false false false (fun c => match c with | 0 => some false | _ => none)
theorem isi_bool (F : PF K mg a) : IsiOk (PR K a) (.type "bool") aisi_bool := isiOk (kit_ty (by decide +kernel)) (kit_ty (by decide +kernel)) (kit_ty (by decide +kernel)) (kit_ty (by decide +kernel)) (kit_ty (by decide +kernel)) (kit_ty (by decide +kernel)) (by
  intro c b h
  split at h
  · cases h; exact ⟨_, rfl, F.kisi_bool_Ratio⟩
  · cases h)
def aisi_int : PV → Option Bool := ansOf false true true false false false (fun c => match c with | 0 => some false | _ => none)
theorem isi_int (F : PF K mg a) : IsiOk (PR K a) (.type "int") aisi_int := isiOk (kit_ty (by decide +kernel)) (kit_ty (by decide +kernel)) (kit_ty (by decide +kernel)) (kit_ty (by decide +kernel)) (kit_ty (by decide +kernel)) (kit_ty (by decide +kernel)) (by
  intro c b h
  split at h
  · cases h; exact ⟨_, rfl, F.kisi_int_Ratio⟩
  · cases h)
def aisi_list_tuple : PV → Option Bool := ansOf false false false false true true (fun c => match c with | 0 => some false | _ => none)
theorem isi_list_tuple (F : PF K mg a) : IsiOkT (PR K a) ([.type "list", .type "tuple"]) aisi_list_tuple := isiOkT (by first | rfl | (unfold PySem.W.kitAny; rfl) | decide +kernel) (by first | rfl | (unfold PySem.W.kitAny; rfl) | decide +kernel) (by first | rfl | (unfold PySem.W.kitAny; rfl) | decide +kernel) (by first | rfl | (unfold PySem.W.kitAny; rfl) | decide +kernel) (by first | rfl | (unfold PySem.W.kitAny; rfl) | decide +kernel) (by first | rfl | (unfold PySem.W.kitAny; rfl) | decide +kernel) (by
  intro c b h
  split at h
  · cases h; exact ⟨_, rfl, F.kisi_list_tuple_Ratio⟩
  · cases h)
theorem b_Ratio___eq__ (F : PF K mg a) : Binds K a.fd_Ratio___eq__ ["self", "other"] [] := F.F_Ratio___eq__.bindsN fun _ _ _ _ _ _ us hl => match us, hl with | [_, _], _ => rfl
theorem b_divisor_of (F : PF K mg a) : Binds K a.fd_divisor_of ["one", "other"] [] := F.F_divisor_of.bindsN fun _ _ _ _ _ _ us hl => match us, hl with | [_, _], _ => rfl
theorem b_is_integer (F : PF K mg a) : Binds K a.fd_is_integer ["value"] [] := F.F_is_integer.bindsN fun _ _ _ _ _ _ us hl => match us, hl with | [_], _ => rfl
theorem b_Ratio_size (F : PF K mg a) : Binds K a.fd_Ratio_size ["self"] [] := F.F_Ratio_size.bindsN fun _ _ _ _ _ _ us hl => match us, hl with | [_], _ => rfl
theorem b_Ratio_bottom (F : PF K mg a) : Binds K a.fd_Ratio_bottom ["self"] [] := F.F_Ratio_bottom.bindsN fun _ _ _ _ _ _ us hl => match us, hl with | [_], _ => rfl
theorem b_Ratio_top (F : PF K mg a) : Binds K a.fd_Ratio_top ["self"] [] := F.F_Ratio_top.bindsN fun _ _ _ _ _ _ us hl => match us, hl with | [_], _ => rfl
theorem b_digits_of (F : PF K mg a) : Binds K a.fd_digits_of ["number"] [] := F.F_digits_of.bindsN fun _ _ _ _ _ _ us hl => match us, hl with | [_], _ => rfl
theorem b_Ratio___repr__ (F : PF K mg a) : Binds K a.fd_Ratio___repr__ ["self"] [] := F.F_Ratio___repr__.bindsN fun _ _ _ _ _ _ us hl => match us, hl with | [_], _ => rfl
theorem b_Ratio_is_whole (F : PF K mg a) : Binds K a.fd_Ratio_is_whole ["self"] [] := F.F_Ratio_is_whole.bindsN fun _ _ _ _ _ _ us hl => match us, hl with | [_], _ => rfl
theorem b_told_pair (F : PF K mg a) : Binds K a.fd_told_pair ["value"] [] := F.F_told_pair.bindsN fun _ _ _ _ _ _ us hl => match us, hl with | [_], _ => rfl
theorem b_Ratio___sub__ (F : PF K mg a) : Binds K a.fd_Ratio___sub__ ["self", "other"] [] := F.F_Ratio___sub__.bindsN fun _ _ _ _ _ _ us hl => match us, hl with | [_, _], _ => rfl
theorem b_Ratio___rsub__ (F : PF K mg a) : Binds K a.fd_Ratio___rsub__ ["self", "other"] [] := F.F_Ratio___rsub__.bindsN fun _ _ _ _ _ _ us hl => match us, hl with | [_, _], _ => rfl
theorem b_Ratio_sign (F : PF K mg a) : Binds K a.fd_Ratio_sign ["self"] [] := F.F_Ratio_sign.bindsN fun _ _ _ _ _ _ us hl => match us, hl with | [_], _ => rfl
theorem b_Ratio___add__ (F : PF K mg a) : Binds K a.fd_Ratio___add__ ["self", "other"] [] := F.F_Ratio___add__.bindsN fun _ _ _ _ _ _ us hl => match us, hl with | [_, _], _ => rfl
theorem b_Ratio___radd__ (F : PF K mg a) : Binds K a.fd_Ratio___radd__ ["self", "other"] [] := F.F_Ratio___radd__.bindsN fun _ _ _ _ _ _ us hl => match us, hl with | [_, _], _ => rfl
theorem b_Ratio___str__ (F : PF K mg a) : Binds K a.fd_Ratio___str__ ["self"] [] := F.F_Ratio___str__.bindsN fun _ _ _ _ _ _ us hl => match us, hl with | [_], _ => rfl
theorem b__law_common (F : PF K mg a) : Binds K a.fd__law_common ["_law_one", "_law_other"] [] := F.F__law_common.bindsN fun _ _ _ _ _ _ us hl => match us, hl with | [_, _], _ => rfl
theorem b_Ratio___mul__ (F : PF K mg a) : Binds K a.fd_Ratio___mul__ ["self", "other"] [] := F.F_Ratio___mul__.bindsN fun _ _ _ _ _ _ us hl => match us, hl with | [_, _], _ => rfl
theorem b_Ratio___rmul__ (F : PF K mg a) : Binds K a.fd_Ratio___rmul__ ["self", "other"] [] := F.F_Ratio___rmul__.bindsN fun _ _ _ _ _ _ us hl => match us, hl with | [_, _], _ => rfl
theorem b__law_is (F : PF K mg a) : Binds K a.fd__law_is ["_law_ratio", "_law_top_here", "_law_bottom"] [] := F.F__law_is.bindsN fun _ _ _ _ _ _ us hl => match us, hl with | [_, _, _], _ => rfl
theorem b_total_of (F : PF K mg a) : Binds K a.fd_total_of ["ratios"] [] := F.F_total_of.bindsN fun _ _ _ _ _ _ us hl => match us, hl with | [_], _ => rfl
theorem b_ratio_of (F : PF K mg a) : Binds K a.fd_ratio_of ["number"] [] := F.F_ratio_of.bindsN fun _ _ _ _ _ _ us hl => match us, hl with | [_], _ => rfl
theorem b_is_number (F : PF K mg a) : Binds K a.fd_is_number ["value"] [] := F.F_is_number.bindsN fun _ _ _ _ _ _ us hl => match us, hl with | [_], _ => rfl
theorem b_want_number (F : PF K mg a) : Binds K a.fd_want_number ["value"] [] := F.F_want_number.bindsN fun _ _ _ _ _ _ us hl => match us, hl with | [_], _ => rfl
theorem b_is_list (F : PF K mg a) : Binds K a.fd_is_list ["value"] [] := F.F_is_list.bindsN fun _ _ _ _ _ _ us hl => match us, hl with | [_], _ => rfl
theorem b_Ratio_total (F : PF K mg a) : Binds K a.fd_Ratio_total ["cls", "numbers"] [] := F.F_Ratio_total.bindsN fun _ _ _ _ _ _ us hl => match us, hl with | [_, _], _ => rfl
theorem b__law_draw (F : PF K mg a) : Binds K a.fd__law_draw ["_law_pot_here", "_law_size"] [] := F.F__law_draw.bindsN fun _ _ _ _ _ _ us hl => match us, hl with | [_, _], _ => rfl
theorem b__law_whole (F : PF K mg a) : Binds K a.fd__law_whole ["_law_pot_here"] [] := F.F__law_whole.bindsN fun _ _ _ _ _ _ us hl => match us, hl with | [_], _ => rfl
theorem b__law_pick (F : PF K mg a) : Binds K a.fd__law_pick ["_law_pot_here", "_law_some"] [] := F.F__law_pick.bindsN fun _ _ _ _ _ _ us hl => match us, hl with | [_, _], _ => rfl
theorem b__law_total_right (F : PF K mg a) : Binds K a.fd__law_total_right ["_law_pot_here", "_law_pairs"] [] := F.F__law_total_right.bindsN fun _ _ _ _ _ _ us hl => match us, hl with | [_, _], _ => rfl
theorem b_Ratio_is_at_most (F : PF K mg a) : Binds K a.fd_Ratio_is_at_most ["self", "other"] [] := F.F_Ratio_is_at_most.bindsN fun _ _ _ _ _ _ us hl => match us, hl with | [_, _], _ => rfl
theorem b_Ratio_is_below (F : PF K mg a) : Binds K a.fd_Ratio_is_below ["self", "other"] [] := F.F_Ratio_is_below.bindsN fun _ _ _ _ _ _ us hl => match us, hl with | [_, _], _ => rfl
theorem b_Ratio_over (F : PF K mg a) : Binds K a.fd_Ratio_over ["self", "other"] [] := F.F_Ratio_over.bindsN fun _ _ _ _ _ _ us hl => match us, hl with | [_, _], _ => rfl
theorem b__law_whole_right (F : PF K mg a) : Binds K a.fd__law_whole_right ["_law_one", "_law_whole_here"] [] := F.F__law_whole_right.bindsN fun _ _ _ _ _ _ us hl => match us, hl with | [_, _], _ => rfl
theorem b_Ratio___neg__ (F : PF K mg a) : Binds K a.fd_Ratio___neg__ ["self"] [] := F.F_Ratio___neg__.bindsN fun _ _ _ _ _ _ us hl => match us, hl with | [_], _ => rfl
theorem b__law_two_right (F : PF K mg a) : Binds K a.fd__law_two_right ["_law_one", "_law_other"] [] := F.F__law_two_right.bindsN fun _ _ _ _ _ _ us hl => match us, hl with | [_, _], _ => rfl
theorem b__law_top (F : PF K mg a) : Binds K a.fd__law_top ["_law_pot_here"] [] := F.F__law_top.bindsN fun _ _ _ _ _ _ us hl => match us, hl with | [_], _ => rfl
theorem b__law_pair (F : PF K mg a) : Binds K a.fd__law_pair ["_law_pot_here"] [] := F.F__law_pair.bindsN fun _ _ _ _ _ _ us hl => match us, hl with | [_], _ => rfl
theorem b__law_pot (F : PF K mg a) : Binds K a.fd__law_pot ["_law_script", "_law_k"] [] := F.F__law_pot.bindsN fun _ _ _ _ _ _ us hl => match us, hl with | [_, _], _ => rfl
theorem b_law (F : PF K mg a) : Binds K a.fd_law ["_law_script"] [] := F.F_law.bindsN fun _ _ _ _ _ _ us hl => match us, hl with | [_], _ => rfl
theorem kb_divisor_of_2 (F : PF K mg a) : KB K a.fd_divisor_of ["one", "other"] 2 [] [0, 1] [] := KB.none F.F_divisor_of (fun _ _ _ _ _ _ us ws h1 h2 => match us, ws, h1, h2 with | [_, _], [], _, _ => rfl) (by decide) rfl
theorem kb_is_integer_1 (F : PF K mg a) : KB K a.fd_is_integer ["value"] 1 [] [0] [] := KB.none F.F_is_integer (fun _ _ _ _ _ _ us ws h1 h2 => match us, ws, h1, h2 with | [_], [], _, _ => rfl) (by decide) rfl
theorem kb_Ratio___init___3 (F : PF K mg a) : KB K a.fd_Ratio___init__ ["self", "top", "bottom"] 3 [] [0, 1, 2] [V.int 1] := KB.dflt F.F_Ratio___init__ (by simp) (fun _ _ _ _ _ _ _ us its ws h1 h2 h3 => match us, its, ws, h1, h2, h3 with | [_, _, _], [_], [], _, _, _ => ⟨_, rfl, rfl⟩) (by decide) rfl
theorem kb_Ratio_size_1 (F : PF K mg a) : KB K a.fd_Ratio_size ["self"] 1 [] [0] [] := KB.none F.F_Ratio_size (fun _ _ _ _ _ _ us ws h1 h2 => match us, ws, h1, h2 with | [_], [], _, _ => rfl) (by decide) rfl
theorem kb_digits_of_1 (F : PF K mg a) : KB K a.fd_digits_of ["number"] 1 [] [0] [] := KB.none F.F_digits_of (fun _ _ _ _ _ _ us ws h1 h2 => match us, ws, h1, h2 with | [_], [], _, _ => rfl) (by decide) rfl
theorem kb_told_pair_1 (F : PF K mg a) : KB K a.fd_told_pair ["value"] 1 [] [0] [] := KB.none F.F_told_pair (fun _ _ _ _ _ _ us ws h1 h2 => match us, ws, h1, h2 with | [_], [], _, _ => rfl) (by decide) rfl
theorem kb__law_common_2 (F : PF K mg a) : KB K a.fd__law_common ["_law_one", "_law_other"] 2 [] [0, 1] [] := KB.none F.F__law_common (fun _ _ _ _ _ _ us ws h1 h2 => match us, ws, h1, h2 with | [_, _], [], _, _ => rfl) (by decide) rfl
theorem kb__law_is_3 (F : PF K mg a) : KB K a.fd__law_is ["_law_ratio", "_law_top_here", "_law_bottom"] 3 [] [0, 1, 2] [] := KB.none F.F__law_is (fun _ _ _ _ _ _ us ws h1 h2 => match us, ws, h1, h2 with | [_, _, _], [], _, _ => rfl) (by decide) rfl
theorem kb_Ratio___init___2 (F : PF K mg a) : KB K a.fd_Ratio___init__ ["self", "top", "bottom"] 2 [] [0, 1, 2] [V.int 1] := KB.dflt F.F_Ratio___init__ (by simp) (fun _ _ _ _ _ _ _ us its ws h1 h2 h3 => match us, its, ws, h1, h2, h3 with | [_, _], [_], [], _, _, _ => ⟨_, rfl, rfl⟩) (by decide) rfl
theorem kb_total_of_1 (F : PF K mg a) : KB K a.fd_total_of ["ratios"] 1 [] [0] [] := KB.none F.F_total_of (fun _ _ _ _ _ _ us ws h1 h2 => match us, ws, h1, h2 with | [_], [], _, _ => rfl) (by decide) rfl
theorem kb_ratio_of_1 (F : PF K mg a) : KB K a.fd_ratio_of ["number"] 1 [] [0] [] := KB.none F.F_ratio_of (fun _ _ _ _ _ _ us ws h1 h2 => match us, ws, h1, h2 with | [_], [], _, _ => rfl) (by decide) rfl
theorem kb_is_number_1 (F : PF K mg a) : KB K a.fd_is_number ["value"] 1 [] [0] [] := KB.none F.F_is_number (fun _ _ _ _ _ _ us ws h1 h2 => match us, ws, h1, h2 with | [_], [], _, _ => rfl) (by decide) rfl
theorem kb_want_number_1 (F : PF K mg a) : KB K a.fd_want_number ["value"] 1 [] [0] [] := KB.none F.F_want_number (fun _ _ _ _ _ _ us ws h1 h2 => match us, ws, h1, h2 with | [_], [], _, _ => rfl) (by decide) rfl
theorem kb_is_list_1 (F : PF K mg a) : KB K a.fd_is_list ["value"] 1 [] [0] [] := KB.none F.F_is_list (fun _ _ _ _ _ _ us ws h1 h2 => match us, ws, h1, h2 with | [_], [], _, _ => rfl) (by decide) rfl
theorem kb_Ratio_total_1_numbers (F : PF K mg a) : KB K a.fd_Ratio_total ["cls", "numbers"] 1 ["numbers"] [0, 1] [] := KB.none F.F_Ratio_total (fun _ _ _ _ _ _ us ws h1 h2 => match us, ws, h1, h2 with | [_], [_], _, _ => rfl) (by decide) rfl
theorem kb_Ratio_total_2 (F : PF K mg a) : KB K a.fd_Ratio_total ["cls", "numbers"] 2 [] [0, 1] [] := KB.none F.F_Ratio_total (fun _ _ _ _ _ _ us ws h1 h2 => match us, ws, h1, h2 with | [_, _], [], _, _ => rfl) (by decide) rfl
theorem kb__law_draw_2 (F : PF K mg a) : KB K a.fd__law_draw ["_law_pot_here", "_law_size"] 2 [] [0, 1] [] := KB.none F.F__law_draw (fun _ _ _ _ _ _ us ws h1 h2 => match us, ws, h1, h2 with | [_, _], [], _, _ => rfl) (by decide) rfl
theorem kb__law_whole_1 (F : PF K mg a) : KB K a.fd__law_whole ["_law_pot_here"] 1 [] [0] [] := KB.none F.F__law_whole (fun _ _ _ _ _ _ us ws h1 h2 => match us, ws, h1, h2 with | [_], [], _, _ => rfl) (by decide) rfl
theorem kb__law_pick_2 (F : PF K mg a) : KB K a.fd__law_pick ["_law_pot_here", "_law_some"] 2 [] [0, 1] [] := KB.none F.F__law_pick (fun _ _ _ _ _ _ us ws h1 h2 => match us, ws, h1, h2 with | [_, _], [], _, _ => rfl) (by decide) rfl
theorem kb__law_total_right_2 (F : PF K mg a) : KB K a.fd__law_total_right ["_law_pot_here", "_law_pairs"] 2 [] [0, 1] [] := KB.none F.F__law_total_right (fun _ _ _ _ _ _ us ws h1 h2 => match us, ws, h1, h2 with | [_, _], [], _, _ => rfl) (by decide) rfl
theorem kb_Ratio_is_at_most_2 (F : PF K mg a) : KB K a.fd_Ratio_is_at_most ["self", "other"] 2 [] [0, 1] [] := KB.none F.F_Ratio_is_at_most (fun _ _ _ _ _ _ us ws h1 h2 => match us, ws, h1, h2 with | [_, _], [], _, _ => rfl) (by decide) rfl
theorem kb_Ratio_is_below_2 (F : PF K mg a) : KB K a.fd_Ratio_is_below ["self", "other"] 2 [] [0, 1] [] := KB.none F.F_Ratio_is_below (fun _ _ _ _ _ _ us ws h1 h2 => match us, ws, h1, h2 with | [_, _], [], _, _ => rfl) (by decide) rfl
theorem kb_Ratio_over_2 (F : PF K mg a) : KB K a.fd_Ratio_over ["self", "other"] 2 [] [0, 1] [] := KB.none F.F_Ratio_over (fun _ _ _ _ _ _ us ws h1 h2 => match us, ws, h1, h2 with | [_, _], [], _, _ => rfl) (by decide) rfl
theorem kb__law_whole_right_2 (F : PF K mg a) : KB K a.fd__law_whole_right ["_law_one", "_law_whole_here"] 2 [] [0, 1] [] := KB.none F.F__law_whole_right (fun _ _ _ _ _ _ us ws h1 h2 => match us, ws, h1, h2 with | [_, _], [], _, _ => rfl) (by decide) rfl
theorem kb_Ratio_is_below_1_other (F : PF K mg a) : KB K a.fd_Ratio_is_below ["self", "other"] 1 ["other"] [0, 1] [] := KB.none F.F_Ratio_is_below (fun _ _ _ _ _ _ us ws h1 h2 => match us, ws, h1, h2 with | [_], [_], _, _ => rfl) (by decide) rfl
theorem kb_Ratio_over_1_other (F : PF K mg a) : KB K a.fd_Ratio_over ["self", "other"] 1 ["other"] [0, 1] [] := KB.none F.F_Ratio_over (fun _ _ _ _ _ _ us ws h1 h2 => match us, ws, h1, h2 with | [_], [_], _, _ => rfl) (by decide) rfl
theorem kb_Ratio___init___1_top_bottom (F : PF K mg a) : KB K a.fd_Ratio___init__ ["self", "top", "bottom"] 1 ["top", "bottom"] [0, 1, 2] [V.int 1] := KB.dflt F.F_Ratio___init__ (by simp) (fun _ _ _ _ _ _ _ us its ws h1 h2 h3 => match us, its, ws, h1, h2, h3 with | [_], [_], [_, _], _, _, _ => ⟨_, rfl, rfl⟩) (by decide) rfl
theorem kb__law_two_right_2 (F : PF K mg a) : KB K a.fd__law_two_right ["_law_one", "_law_other"] 2 [] [0, 1] [] := KB.none F.F__law_two_right (fun _ _ _ _ _ _ us ws h1 h2 => match us, ws, h1, h2 with | [_, _], [], _, _ => rfl) (by decide) rfl
theorem kb__law_top_1 (F : PF K mg a) : KB K a.fd__law_top ["_law_pot_here"] 1 [] [0] [] := KB.none F.F__law_top (fun _ _ _ _ _ _ us ws h1 h2 => match us, ws, h1, h2 with | [_], [], _, _ => rfl) (by decide) rfl
theorem kb__law_pair_1 (F : PF K mg a) : KB K a.fd__law_pair ["_law_pot_here"] 1 [] [0] [] := KB.none F.F__law_pair (fun _ _ _ _ _ _ us ws h1 h2 => match us, ws, h1, h2 with | [_], [], _, _ => rfl) (by decide) rfl
theorem kb__law_pot_2 (F : PF K mg a) : KB K a.fd__law_pot ["_law_script", "_law_k"] 2 [] [0, 1] [] := KB.none F.F__law_pot (fun _ _ _ _ _ _ us ws h1 h2 => match us, ws, h1, h2 with | [_, _], [], _, _ => rfl) (by decide) rfl
end
/-! ### Ratio.__eq__ -/
def d_Ratio___eq__ : DF := runB 2 (
    (sSeq (sIf (tNotD (tB (dIsi aisi_Ratio (dVar 1)))) (sRet (dC (.bl false))) sNil)
    (sRet (dAndV (dBin (oEqP false bad2) (dFld 0 0 (dVar 0)) (dFld 0 0 (dVar 1))) (dBin (oEqP false bad2) (dFld 0 1 (dVar 0)) (dFld 0 1 (dVar 1)))))))
theorem t_Ratio___eq__ {prog : Program} {w : World} {K : PySem.W.Frag} {mg : Str → Option Value} {base : Heap} {a : AD} (F : PF K mg a) : FnD prog w K mg base (PR K a) 1 true a.f_Ratio___eq__ a.fd_Ratio___eq__ ["self", "other"] d_Ratio___eq__ := by
  have S : FnScope ["self", "other"] ["self", "other"] (defScope s_Ratio___eq__) := ⟨rfl, rfl, rfl, by decide +kernel, rfl, by decide +kernel, by decide +kernel⟩
  refine FnD.mono (g := true) (k := 1) (FnD.of_fun F.F_Ratio___eq__ S fun cdv A outer s H E hr hg => ?_) (Nat.le_refl _)
  have tk := takes_of (X := cxOf (L2.CX prog w) prog w K mg base ["self", "other"] "Ratio.__eq__" (defScope s_Ratio___eq__) a.f_Ratio___eq__ cdv A outer s H E) rfl rfl rfl rfl
  have hp := passes_of (X := cxOf (L2.CX prog w) prog w K mg base ["self", "other"] "Ratio.__eq__" (defScope s_Ratio___eq__) a.f_Ratio___eq__ cdv A outer s H E) rfl
  exact (sns_cons (sns_if (snt_not (snt_val (sn_isi rfl (clsAll F) (.own _) (isi_Ratio F) (sn_var (i := 1)) (pe_cn rfl F.gm_Ratio) rfl F.b_isinstance))) (sns_one (sns_ret sn_bl)) sns_nil)
    (sns_one (sns_ret (sn_and (sn_cmp (op_eqP op_bad) (sn_fld (c := 0) (j := 0) (sn_var (i := 0)) rfl rfl F.cls_Ratio F.na_Ratio_own_top nd_Ratio rfl) (sn_fld (c := 0) (j := 0) (sn_var (i := 1)) rfl rfl F.cls_Ratio F.na_Ratio_own_top nd_Ratio rfl)) (sn_one (sn_cmp (op_eqP op_bad) (sn_fld (c := 0) (j := 1) (sn_var (i := 0)) rfl rfl F.cls_Ratio F.na_Ratio_own_bottom nd_Ratio rfl) (sn_fld (c := 0) (j := 1) (sn_var (i := 1)) rfl rfl F.cls_Ratio F.na_Ratio_own_bottom nd_Ratio rfl)))))))
/-! ### divisor_of -/
def d_divisor_of : DF := runB 2 (
    (sRet (bindE (dCons (dVar 0) (dCons (dVar 1) dNil)) oGcd)))
theorem t_divisor_of {prog : Program} {w : World} {K : PySem.W.Frag} {mg : Str → Option Value} {base : Heap} {a : AD} (F : PF K mg a) : FnD prog w K mg base (PR K a) 1 true a.f_divisor_of a.fd_divisor_of ["one", "other"] d_divisor_of := by
  have S : FnScope ["one", "other"] ["one", "other"] (defScope s_divisor_of) := ⟨rfl, rfl, rfl, by decide +kernel, rfl, by decide +kernel, by decide +kernel⟩
  refine FnD.mono (g := true) (k := 1) (FnD.of_fun F.F_divisor_of S fun cdv A outer s H E hr hg => ?_) (Nat.le_refl _)
  have tk := takes_of (X := cxOf (L2.CX prog w) prog w K mg base ["one", "other"] "divisor_of" (defScope s_divisor_of) a.f_divisor_of cdv A outer s H E) rfl rfl rfl rfl
  have hp := passes_of (X := cxOf (L2.CX prog w) prog w K mg base ["one", "other"] "divisor_of" (defScope s_divisor_of) a.f_divisor_of cdv A outer s H E) rfl
  exact (sns_one (sns_ret (sn_cbF cs_gcd rfl F.i_gcd (sna_cons (sn_var (i := 0)) (sna_cons (sn_var (i := 1)) sna_nil)))))
/-! ### is_integer -/
def d_is_integer : DF := runB 1 (
    (sRet (dAndV (dIsi aisi_int (dVar 0)) (dNotV (dIsi aisi_bool (dVar 0))))))
theorem t_is_integer {prog : Program} {w : World} {K : PySem.W.Frag} {mg : Str → Option Value} {base : Heap} {a : AD} (F : PF K mg a) : FnD prog w K mg base (PR K a) 1 true a.f_is_integer a.fd_is_integer ["value"] d_is_integer := by
  have S : FnScope ["value"] ["value"] (defScope s_is_integer) := ⟨rfl, rfl, rfl, by decide +kernel, rfl, by decide +kernel, by decide +kernel⟩
  refine FnD.mono (g := true) (k := 1) (FnD.of_fun F.F_is_integer S fun cdv A outer s H E hr hg => ?_) (Nat.le_refl _)
  have tk := takes_of (X := cxOf (L2.CX prog w) prog w K mg base ["value"] "is_integer" (defScope s_is_integer) a.f_is_integer cdv A outer s H E) rfl rfl rfl rfl
  have hp := passes_of (X := cxOf (L2.CX prog w) prog w K mg base ["value"] "is_integer" (defScope s_is_integer) a.f_is_integer cdv A outer s H E) rfl
  exact (sns_one (sns_ret (sn_and (sn_isi rfl (clsAll F) (.ty _) (isi_int F) (sn_var (i := 0)) (pe_tn rfl F.b_int (by decide +kernel)) rfl F.b_isinstance) (sn_one (sn_not (sn_isi rfl (clsAll F) (.ty _) (isi_bool F) (sn_var (i := 0)) (pe_tn rfl F.b_bool (by decide +kernel)) rfl F.b_isinstance))))))
/-! ### Ratio.__init__ -/
def d_Ratio___init__ : DF := runB 4 (
    (sSeq (sIf (tNotD (tB (dCall [0] [] (callP d_is_integer) (bindE (dCons (dVar 1) dNil) fun xs => if xs.length = 1 then retE xs else badE)))) sBad sNil)
    (sSeq (sIf (tOrD (tNotD (tB (dCall [0] [] (callP d_is_integer) (bindE (dCons (dVar 2) dNil) fun xs => if xs.length = 1 then retE xs else badE)))) (tB (dBin (oEqP false bad2) (dVar 2) (dC (.int 0))))) sBad sNil)
    (sSeq (sSet 3 (dCall [0, 1] [] (callP d_divisor_of) (bindE (dCons (dVar 1) (dCons (dVar 2) dNil)) fun xs => if xs.length = 2 then retE xs else badE)))
    (sSeq (sIf (tB (dBin (oLt bad2) (dVar 2) (dC (.int 0)))) (sSet 3 (dBin (oSub bad2) (dC (.int 0)) (dVar 3))) sNil)
    (sSeq (sFld 0 0 0 (dBin (oDiv bad2) (dVar 1) (dVar 3)))
    (sFld 0 0 1 (dBin (oDiv bad2) (dVar 2) (dVar 3)))))))))
theorem t_Ratio___init__ {prog : Program} {w : World} {K : PySem.W.Frag} {mg : Str → Option Value} {base : Heap} {a : AD} (F : PF K mg a) : FnD prog w K mg base (PR K a) 2 true a.f_Ratio___init__ a.fd_Ratio___init__ ["self", "top", "bottom"] d_Ratio___init__ := by
  have S : FnScope ["self", "top", "bottom", "common"] ["self", "top", "bottom"] (defScope s_Ratio___init__) := ⟨rfl, rfl, rfl, by decide +kernel, rfl, by decide +kernel, by decide +kernel⟩
  refine FnD.mono (g := true) (k := 2) (FnD.of_fun F.F_Ratio___init__ S fun cdv A outer s H E hr hg => ?_) (Nat.le_refl _)
  have tk := takes_of (X := cxOf (L2.CX prog w) prog w K mg base ["self", "top", "bottom", "common"] "Ratio.__init__" (defScope s_Ratio___init__) a.f_Ratio___init__ cdv A outer s H E) rfl rfl rfl rfl
  have hp := passes_of (X := cxOf (L2.CX prog w) prog w K mg base ["self", "top", "bottom", "common"] "Ratio.__init__" (defScope s_Ratio___init__) a.f_Ratio___init__ cdv A outer s H E) rfl
  exact (sns_cons (sns_if (snt_not (snt_val (sn_callG (n := 1) (π := [0]) (t_is_integer F) (hr.mono (by decide)) hg tk rfl F.g_is_integer F.F_is_integer.kp (kb_is_integer_1 F) repD_nil cdP (ca_pos (sna_cons (sn_var (i := 1)) sna_nil) rfl)))) (sns_one sns_bad) sns_nil)
    (sns_cons (sns_if (SnW.t (snw_or (snt_not (snt_val (sn_callG (n := 1) (π := [0]) (t_is_integer F) (hr.mono (by decide)) hg tk rfl F.g_is_integer F.F_is_integer.kp (kb_is_integer_1 F) repD_nil cdP (ca_pos (sna_cons (sn_var (i := 2)) sna_nil) rfl)))) (snw_or1 (snt_cmp (op_eqP op_bad) (sn_var (i := 2)) sn_int)))) (sns_one sns_bad) sns_nil)
    (sns_cons (sns_set (i := 3) S.nd rfl (by first | exact Or.inl rfl | exact Or.inr rfl) (sn_callG (n := 2) (π := [0, 1]) (t_divisor_of F) (hr.mono (by decide)) hg tk rfl F.g_divisor_of F.F_divisor_of.kp (kb_divisor_of_2 F) repD_nil cdP (ca_pos (sna_cons (sn_var (i := 1)) (sna_cons (sn_var (i := 2)) sna_nil)) rfl)))
    (sns_cons (sns_if (snt_cmp (op_ltS op_bad) (sn_var (i := 2)) sn_int) (sns_one (sns_set (i := 3) S.nd rfl (by first | exact Or.inl rfl | exact Or.inr rfl) (sn_bin (op_subS op_bad) sn_int (sn_var (i := 3))))) sns_nil)
    (sns_cons (sns_fld (i := 0) (c := 0) (j := 0) rfl (by first | exact Or.inl rfl | exact Or.inr (Or.inl rfl)) (sn_bin (op_divS op_bad) (sn_var (i := 1)) (sn_var (i := 3))) rfl F.cls_Ratio F.na_Ratio_own_top (show 2 < 1000 by decide) nd_Ratio rfl)
    (sns_one (sns_fld (i := 0) (c := 0) (j := 1) rfl (by first | exact Or.inl rfl | exact Or.inr (Or.inl rfl)) (sn_bin (op_divS op_bad) (sn_var (i := 2)) (sn_var (i := 3))) rfl F.cls_Ratio F.na_Ratio_own_bottom (show 2 < 1000 by decide) nd_Ratio rfl)))))))
/-! ### Ratio.size -/
def d_Ratio_size : DF := runB 1 (
    (sRet (dCall [0, 1] [.pv (.int 1)] (mkIns 0 2 d_Ratio___init__) (bindE (dCons (bindE (dCons (dFld 0 0 (dVar 0)) dNil) oAbs) (dCons (dFld 0 1 (dVar 0)) dNil)) fun xs => if xs.length = 2 then retE xs else badE))))
theorem t_Ratio_size {prog : Program} {w : World} {K : PySem.W.Frag} {mg : Str → Option Value} {base : Heap} {a : AD} (F : PF K mg a) : FnD prog w K mg base (PR K a) 4 true a.f_Ratio_size a.fd_Ratio_size ["self"] d_Ratio_size := by
  have S : FnScope ["self"] ["self"] (defScope s_Ratio_size) := ⟨rfl, rfl, rfl, by decide +kernel, rfl, by decide +kernel, by decide +kernel⟩
  refine FnD.mono (g := true) (k := 4) (FnD.of_fun F.F_Ratio_size S fun cdv A outer s H E hr hg => ?_) (Nat.le_refl _)
  have tk := takes_of (X := cxOf (L2.CX prog w) prog w K mg base ["self"] "Ratio.size" (defScope s_Ratio_size) a.f_Ratio_size cdv A outer s H E) rfl rfl rfl rfl
  have hp := passes_of (X := cxOf (L2.CX prog w) prog w K mg base ["self"] "Ratio.size" (defScope s_Ratio_size) a.f_Ratio_size cdv A outer s H E) rfl
  exact (sns_one (sns_ret (sn_makeG (c := 0) (n := 2) (nf := 2) (π := [1, 2]) (t_Ratio___init__ F) rfl rfl F.mk_Ratio (hr.mono (by decide)) hg tk rfl F.gm_Ratio (kb_Ratio___init___3 F) (repD_int repD_nil) (by decide) (ca_pos (sna_cons (sn_cb cs_abs rfl F.b_abs (by decide +kernel) (sna_cons (sn_fld (c := 0) (j := 0) (sn_var (i := 0)) rfl rfl F.cls_Ratio F.na_Ratio_own_top nd_Ratio rfl) sna_nil)) (sna_cons (sn_fld (c := 0) (j := 1) (sn_var (i := 0)) rfl rfl F.cls_Ratio F.na_Ratio_own_bottom nd_Ratio rfl) sna_nil)) rfl))))
/-! ### Ratio.bottom -/
def d_Ratio_bottom : DF := runB 1 (
    (sRet (dFld 0 1 (dVar 0))))
theorem t_Ratio_bottom {prog : Program} {w : World} {K : PySem.W.Frag} {mg : Str → Option Value} {base : Heap} {a : AD} (F : PF K mg a) : FnD prog w K mg base (PR K a) 1 true a.f_Ratio_bottom a.fd_Ratio_bottom ["self"] d_Ratio_bottom := by
  have S : FnScope ["self"] ["self"] (defScope s_Ratio_bottom) := ⟨rfl, rfl, rfl, by decide +kernel, rfl, by decide +kernel, by decide +kernel⟩
  refine FnD.mono (g := true) (k := 1) (FnD.of_fun F.F_Ratio_bottom S fun cdv A outer s H E hr hg => ?_) (Nat.le_refl _)
  have tk := takes_of (X := cxOf (L2.CX prog w) prog w K mg base ["self"] "Ratio.bottom" (defScope s_Ratio_bottom) a.f_Ratio_bottom cdv A outer s H E) rfl rfl rfl rfl
  have hp := passes_of (X := cxOf (L2.CX prog w) prog w K mg base ["self"] "Ratio.bottom" (defScope s_Ratio_bottom) a.f_Ratio_bottom cdv A outer s H E) rfl
  exact (sns_one (sns_ret (sn_fld (c := 0) (j := 1) (sn_var (i := 0)) rfl rfl F.cls_Ratio F.na_Ratio_own_bottom nd_Ratio rfl)))
/-! ### Ratio.top -/
def d_Ratio_top : DF := runB 1 (
    (sRet (dFld 0 0 (dVar 0))))
theorem t_Ratio_top {prog : Program} {w : World} {K : PySem.W.Frag} {mg : Str → Option Value} {base : Heap} {a : AD} (F : PF K mg a) : FnD prog w K mg base (PR K a) 1 true a.f_Ratio_top a.fd_Ratio_top ["self"] d_Ratio_top := by
  have S : FnScope ["self"] ["self"] (defScope s_Ratio_top) := ⟨rfl, rfl, rfl, by decide +kernel, rfl, by decide +kernel, by decide +kernel⟩
  refine FnD.mono (g := true) (k := 1) (FnD.of_fun F.F_Ratio_top S fun cdv A outer s H E hr hg => ?_) (Nat.le_refl _)
  have tk := takes_of (X := cxOf (L2.CX prog w) prog w K mg base ["self"] "Ratio.top" (defScope s_Ratio_top) a.f_Ratio_top cdv A outer s H E) rfl rfl rfl rfl
  have hp := passes_of (X := cxOf (L2.CX prog w) prog w K mg base ["self"] "Ratio.top" (defScope s_Ratio_top) a.f_Ratio_top cdv A outer s H E) rfl
  exact (sns_one (sns_ret (sn_fld (c := 0) (j := 0) (sn_var (i := 0)) rfl rfl F.cls_Ratio F.na_Ratio_own_top nd_Ratio rfl)))
/-! ### digits_of -/
def d_digits_of : DF := runB 5 (
    (sSeq (sPar 1 2 (dCons (dIf (tB (dBin (oGe bad2) (dVar 0) (dC (.int 0)))) (dVar 0) (dBin (oSub bad2) (dC (.int 0)) (dVar 0))) (dCons (dC (.str "")) dNil)))
    (sSeq (whileF (tB (dBin (oGe bad2) (dVar 1) (dC (.int 1000000000000000000000000000000000000000000000000000000000000)))) (sSeq (sSet 3 (dBin (oAddI (oAddS (oAddL bad2))) (dBin (oMod bad2) (bindE (dCons (dVar 1) dNil) oInt) (dC (.int 1000000000000000000000000000000000000000000000000000000000000))) (dC (.int 1000000000000000000000000000000000000000000000000000000000000))))
    (sSeq (sSet 2 (dJoin [(dFmt (bindE (bindE (dCons (dVar 3) dNil) oStr) fun x => bindE (pSome (dC (.int 1))) fun l => bindE pNone fun h => slS x l h)), (dFmt (dVar 2))] Str.empty))
    (sSet 1 (dBin (oDiv bad2) (dVar 1) (dC (.int 1000000000000000000000000000000000000000000000000000000000000)))))) 100000)
    (sSeq (sSet 4 (dIf (tB (dBin (oLt bad2) (dVar 0) (dC (.int 0)))) (dC (.str "-")) (dC (.str ""))))
    (sRet (dJoin [(dFmt (dVar 4)), (dFmt (dVar 1)), (dFmt (dVar 2))] Str.empty))))))
theorem t_digits_of {prog : Program} {w : World} {K : PySem.W.Frag} {mg : Str → Option Value} {base : Heap} {a : AD} (F : PF K mg a) : FnD prog w K mg base (PR K a) 1 true a.f_digits_of a.fd_digits_of ["number"] d_digits_of := by
  have S : FnScope ["number", "left", "told", "part", "sign"] ["number"] (defScope s_digits_of) := ⟨rfl, rfl, rfl, by decide +kernel, rfl, by decide +kernel, by decide +kernel⟩
  refine FnD.mono (g := true) (k := 1) (FnD.of_fun F.F_digits_of S fun cdv A outer s H E hr hg => ?_) (Nat.le_refl _)
  have tk := takes_of (X := cxOf (L2.CX prog w) prog w K mg base ["number", "left", "told", "part", "sign"] "digits_of" (defScope s_digits_of) a.f_digits_of cdv A outer s H E) rfl rfl rfl rfl
  have hp := passes_of (X := cxOf (L2.CX prog w) prog w K mg base ["number", "left", "told", "part", "sign"] "digits_of" (defScope s_digits_of) a.f_digits_of cdv A outer s H E) rfl
  exact (sns_cons (sns_par (i := 1) (j := 2) rfl S.nd rfl rfl (by decide) rfl rfl (sna_cons (sn_if (snt_cmp (op_geS op_bad) (sn_var (i := 0)) sn_int) (sn_var (i := 0)) (sn_bin (op_subS op_bad) sn_int (sn_var (i := 0)))) (sna_cons sn_str sna_nil)) (by rfl))
    (sns_cons (sns_while 100000 hp (snt_cmp (op_geS op_bad) (sn_var (i := 1)) (sn_gI rfl F.c_PART)) (sns_cons (sns_set (i := 3) S.nd rfl (by first | exact Or.inl rfl | exact Or.inr rfl) (sn_bin (op_addI (op_addS (op_addL op_bad))) (sn_bin (op_modS op_bad) (sn_cbT cs_int rfl F.b_int (by decide +kernel) (sna_cons (sn_var (i := 1)) sna_nil)) (sn_gI rfl F.c_PART)) (sn_gI rfl F.c_PART)))
    (sns_cons (sns_set (i := 2) S.nd rfl (by first | exact Or.inl rfl | exact Or.inr rfl) (sn_joined (.cons (sn_fmt (sn_slS (sn_cbT cs_strI rfl F.b_str (by decide +kernel) (sna_cons (sn_var (i := 3)) sna_nil)) (snp_some sn_int) snp_none)) (.cons (sn_fmt (sn_var (i := 2))) .nil))))
    (sns_one (sns_set (i := 1) S.nd rfl (by first | exact Or.inl rfl | exact Or.inr rfl) (sn_bin (op_divS op_bad) (sn_var (i := 1)) (sn_gI rfl F.c_PART)))))))
    (sns_cons (sns_set (i := 4) S.nd rfl (by first | exact Or.inl rfl | exact Or.inr rfl) (sn_if (snt_cmp (op_ltS op_bad) (sn_var (i := 0)) sn_int) sn_str sn_str))
    (sns_one (sns_ret (sn_joined (.cons (sn_fmt (sn_var (i := 4))) (.cons (sn_fmt (sn_var (i := 1))) (.cons (sn_fmt (sn_var (i := 2))) .nil)))))))))
/-! ### Ratio.__repr__ -/
def d_Ratio___repr__ : DF := runB 1 (
    (sRet (dJoin [(dC (.str "Ratio(")), (dFmt (dCall [0] [] (callP d_digits_of) (bindE (dCons (dFld 0 0 (dVar 0)) dNil) fun xs => if xs.length = 1 then retE xs else badE))), (dC (.str ", ")), (dFmt (dCall [0] [] (callP d_digits_of) (bindE (dCons (dFld 0 1 (dVar 0)) dNil) fun xs => if xs.length = 1 then retE xs else badE))), (dC (.str ")"))] Str.empty)))
theorem t_Ratio___repr__ {prog : Program} {w : World} {K : PySem.W.Frag} {mg : Str → Option Value} {base : Heap} {a : AD} (F : PF K mg a) : FnD prog w K mg base (PR K a) 2 true a.f_Ratio___repr__ a.fd_Ratio___repr__ ["self"] d_Ratio___repr__ := by
  have S : FnScope ["self"] ["self"] (defScope s_Ratio___repr__) := ⟨rfl, rfl, rfl, by decide +kernel, rfl, by decide +kernel, by decide +kernel⟩
  refine FnD.mono (g := true) (k := 2) (FnD.of_fun F.F_Ratio___repr__ S fun cdv A outer s H E hr hg => ?_) (Nat.le_refl _)
  have tk := takes_of (X := cxOf (L2.CX prog w) prog w K mg base ["self"] "Ratio.__repr__" (defScope s_Ratio___repr__) a.f_Ratio___repr__ cdv A outer s H E) rfl rfl rfl rfl
  have hp := passes_of (X := cxOf (L2.CX prog w) prog w K mg base ["self"] "Ratio.__repr__" (defScope s_Ratio___repr__) a.f_Ratio___repr__ cdv A outer s H E) rfl
  exact (sns_one (sns_ret (sn_joined (.cons sn_str (.cons (sn_fmt (sn_callG (n := 1) (π := [0]) (t_digits_of F) (hr.mono (by decide)) hg tk rfl F.g_digits_of F.F_digits_of.kp (kb_digits_of_1 F) repD_nil cdP (ca_pos (sna_cons (sn_fld (c := 0) (j := 0) (sn_var (i := 0)) rfl rfl F.cls_Ratio F.na_Ratio_own_top nd_Ratio rfl) sna_nil) rfl))) (.cons sn_str (.cons (sn_fmt (sn_callG (n := 1) (π := [0]) (t_digits_of F) (hr.mono (by decide)) hg tk rfl F.g_digits_of F.F_digits_of.kp (kb_digits_of_1 F) repD_nil cdP (ca_pos (sna_cons (sn_fld (c := 0) (j := 1) (sn_var (i := 0)) rfl rfl F.cls_Ratio F.na_Ratio_own_bottom nd_Ratio rfl) sna_nil) rfl))) (.cons sn_str .nil))))))))
/-! ### Ratio.is_whole -/
def d_Ratio_is_whole : DF := runB 1 (
    (sRet (dBin (oEqP false (oEqO 0 d_Ratio___eq__ bad2)) (dFld 0 1 (dVar 0)) (dC (.int 1)))))
theorem t_Ratio_is_whole {prog : Program} {w : World} {K : PySem.W.Frag} {mg : Str → Option Value} {base : Heap} {a : AD} (F : PF K mg a) : FnD prog w K mg base (PR K a) 2 true a.f_Ratio_is_whole a.fd_Ratio_is_whole ["self"] d_Ratio_is_whole := by
  have S : FnScope ["self"] ["self"] (defScope s_Ratio_is_whole) := ⟨rfl, rfl, rfl, by decide +kernel, rfl, by decide +kernel, by decide +kernel⟩
  refine FnD.mono (g := true) (k := 2) (FnD.of_fun F.F_Ratio_is_whole S fun cdv A outer s H E hr hg => ?_) (Nat.le_refl _)
  have tk := takes_of (X := cxOf (L2.CX prog w) prog w K mg base ["self"] "Ratio.is_whole" (defScope s_Ratio_is_whole) a.f_Ratio_is_whole cdv A outer s H E) rfl rfl rfl rfl
  have hp := passes_of (X := cxOf (L2.CX prog w) prog w K mg base ["self"] "Ratio.is_whole" (defScope s_Ratio_is_whole) a.f_Ratio_is_whole cdv A outer s H E) rfl
  exact (sns_one (sns_ret (sn_cmp (op_eqP (op_eqO (c := 0) rfl F.eq_Ratio (t_Ratio___eq__ F) (hr.mono (by decide)) hg tk (b_Ratio___eq__ F) rfl op_bad)) (sn_fld (c := 0) (j := 1) (sn_var (i := 0)) rfl rfl F.cls_Ratio F.na_Ratio_own_bottom nd_Ratio rfl) sn_int)))
/-! ### told_pair -/
def d_told_pair : DF := runB 1 (
    (sSeq (sIf (tB (dIsi aisi_Ratio (dVar 0))) (sRet (bindE (dCons (dFld 0 0 (dVar 0)) (dCons (dFld 0 1 (dVar 0)) dNil)) mkTup)) sNil)
    (sSeq (sIf (tNotD (tB (dCall [0] [] (callP d_is_integer) (bindE (dCons (dVar 0) dNil) fun xs => if xs.length = 1 then retE xs else badE)))) sBad sNil)
    (sRet (bindE (dCons (dVar 0) (dCons (dC (.int 1)) dNil)) mkTup)))))
theorem t_told_pair {prog : Program} {w : World} {K : PySem.W.Frag} {mg : Str → Option Value} {base : Heap} {a : AD} (F : PF K mg a) : FnD prog w K mg base (PR K a) 2 true a.f_told_pair a.fd_told_pair ["value"] d_told_pair := by
  have S : FnScope ["value"] ["value"] (defScope s_told_pair) := ⟨rfl, rfl, rfl, by decide +kernel, rfl, by decide +kernel, by decide +kernel⟩
  refine FnD.mono (g := true) (k := 2) (FnD.of_fun F.F_told_pair S fun cdv A outer s H E hr hg => ?_) (Nat.le_refl _)
  have tk := takes_of (X := cxOf (L2.CX prog w) prog w K mg base ["value"] "told_pair" (defScope s_told_pair) a.f_told_pair cdv A outer s H E) rfl rfl rfl rfl
  have hp := passes_of (X := cxOf (L2.CX prog w) prog w K mg base ["value"] "told_pair" (defScope s_told_pair) a.f_told_pair cdv A outer s H E) rfl
  exact (sns_cons (sns_if (snt_val (sn_isi rfl (clsAll F) (.own _) (isi_Ratio F) (sn_var (i := 0)) (pe_cn rfl F.gm_Ratio) rfl F.b_isinstance)) (sns_one (sns_ret (sn_tup (sna_cons (sn_fld (c := 0) (j := 0) (sn_var (i := 0)) rfl rfl F.cls_Ratio F.na_Ratio_own_top nd_Ratio rfl) (sna_cons (sn_fld (c := 0) (j := 1) (sn_var (i := 0)) rfl rfl F.cls_Ratio F.na_Ratio_own_bottom nd_Ratio rfl) sna_nil))))) sns_nil)
    (sns_cons (sns_if (snt_not (snt_val (sn_callG (n := 1) (π := [0]) (t_is_integer F) (hr.mono (by decide)) hg tk rfl F.g_is_integer F.F_is_integer.kp (kb_is_integer_1 F) repD_nil cdP (ca_pos (sna_cons (sn_var (i := 0)) sna_nil) rfl)))) (sns_one sns_bad) sns_nil)
    (sns_one (sns_ret (sn_tup (sna_cons (sn_var (i := 0)) (sna_cons sn_int sna_nil)))))))
/-! ### Ratio.__sub__ -/
def d_Ratio___sub__ : DF := runB 4 (
    (sSeq (sAsg (dCall [0] [] (callP d_told_pair) (bindE (dCons (dVar 1) dNil) fun xs => if xs.length = 1 then retE xs else badE)) (gTupD 2 (gsCons (gSet 2) (gsCons (gSet 3) gsNil))))
    (sRet (dCall [0, 1] [.pv (.int 1)] (mkIns 0 2 d_Ratio___init__) (bindE (dCons (dBin (oSub bad2) (dBin (oMulI bad2) (dFld 0 0 (dVar 0)) (dVar 3)) (dBin (oMulI bad2) (dVar 2) (dFld 0 1 (dVar 0)))) (dCons (dBin (oMulI bad2) (dFld 0 1 (dVar 0)) (dVar 3)) dNil)) fun xs => if xs.length = 2 then retE xs else badE)))))
theorem t_Ratio___sub__ {prog : Program} {w : World} {K : PySem.W.Frag} {mg : Str → Option Value} {base : Heap} {a : AD} (F : PF K mg a) : FnD prog w K mg base (PR K a) 4 true a.f_Ratio___sub__ a.fd_Ratio___sub__ ["self", "other"] d_Ratio___sub__ := by
  have S : FnScope ["self", "other", "top", "bottom"] ["self", "other"] (defScope s_Ratio___sub__) := ⟨rfl, rfl, rfl, by decide +kernel, rfl, by decide +kernel, by decide +kernel⟩
  refine FnD.mono (g := true) (k := 4) (FnD.of_fun F.F_Ratio___sub__ S fun cdv A outer s H E hr hg => ?_) (Nat.le_refl _)
  have tk := takes_of (X := cxOf (L2.CX prog w) prog w K mg base ["self", "other", "top", "bottom"] "Ratio.__sub__" (defScope s_Ratio___sub__) a.f_Ratio___sub__ cdv A outer s H E) rfl rfl rfl rfl
  have hp := passes_of (X := cxOf (L2.CX prog w) prog w K mg base ["self", "other", "top", "bottom"] "Ratio.__sub__" (defScope s_Ratio___sub__) a.f_Ratio___sub__ cdv A outer s H E) rfl
  exact (sns_cons (sns_asg (sn_callG (n := 1) (π := [0]) (t_told_pair F) (hr.mono (by decide)) hg tk rfl F.g_told_pair F.F_told_pair.kp (kb_told_pair_1 F) repD_nil cdP (ca_pos (sna_cons (sn_var (i := 1)) sna_nil) rfl)) (sng_tup rfl rfl (sngs_cons (sng_name (i := 2) S.nd rfl (by first | exact Or.inl rfl | exact Or.inr rfl)) (sngs_cons (sng_name (i := 3) S.nd rfl (by first | exact Or.inl rfl | exact Or.inr rfl)) sngs_nil))))
    (sns_one (sns_ret (sn_makeG (c := 0) (n := 2) (nf := 2) (π := [1, 2]) (t_Ratio___init__ F) rfl rfl F.mk_Ratio (hr.mono (by decide)) hg tk rfl F.gm_Ratio (kb_Ratio___init___3 F) (repD_int repD_nil) (by decide) (ca_pos (sna_cons (sn_bin (op_subS op_bad) (sn_bin (op_mulI op_bad) (sn_fld (c := 0) (j := 0) (sn_var (i := 0)) rfl rfl F.cls_Ratio F.na_Ratio_own_top nd_Ratio rfl) (sn_var (i := 3))) (sn_bin (op_mulI op_bad) (sn_var (i := 2)) (sn_fld (c := 0) (j := 1) (sn_var (i := 0)) rfl rfl F.cls_Ratio F.na_Ratio_own_bottom nd_Ratio rfl))) (sna_cons (sn_bin (op_mulI op_bad) (sn_fld (c := 0) (j := 1) (sn_var (i := 0)) rfl rfl F.cls_Ratio F.na_Ratio_own_bottom nd_Ratio rfl) (sn_var (i := 3))) sna_nil)) rfl)))))
/-! ### Ratio.__rsub__ -/
def d_Ratio___rsub__ : DF := runB 4 (
    (sSeq (sAsg (dCall [0] [] (callP d_told_pair) (bindE (dCons (dVar 1) dNil) fun xs => if xs.length = 1 then retE xs else badE)) (gTupD 2 (gsCons (gSet 2) (gsCons (gSet 3) gsNil))))
    (sRet (dCall [0, 1] [.pv (.int 1)] (mkIns 0 2 d_Ratio___init__) (bindE (dCons (dBin (oSub bad2) (dBin (oMulI bad2) (dVar 2) (dFld 0 1 (dVar 0))) (dBin (oMulI bad2) (dFld 0 0 (dVar 0)) (dVar 3))) (dCons (dBin (oMulI bad2) (dFld 0 1 (dVar 0)) (dVar 3)) dNil)) fun xs => if xs.length = 2 then retE xs else badE)))))
theorem t_Ratio___rsub__ {prog : Program} {w : World} {K : PySem.W.Frag} {mg : Str → Option Value} {base : Heap} {a : AD} (F : PF K mg a) : FnD prog w K mg base (PR K a) 4 true a.f_Ratio___rsub__ a.fd_Ratio___rsub__ ["self", "other"] d_Ratio___rsub__ := by
  have S : FnScope ["self", "other", "top", "bottom"] ["self", "other"] (defScope s_Ratio___rsub__) := ⟨rfl, rfl, rfl, by decide +kernel, rfl, by decide +kernel, by decide +kernel⟩
  refine FnD.mono (g := true) (k := 4) (FnD.of_fun F.F_Ratio___rsub__ S fun cdv A outer s H E hr hg => ?_) (Nat.le_refl _)
  have tk := takes_of (X := cxOf (L2.CX prog w) prog w K mg base ["self", "other", "top", "bottom"] "Ratio.__rsub__" (defScope s_Ratio___rsub__) a.f_Ratio___rsub__ cdv A outer s H E) rfl rfl rfl rfl
  have hp := passes_of (X := cxOf (L2.CX prog w) prog w K mg base ["self", "other", "top", "bottom"] "Ratio.__rsub__" (defScope s_Ratio___rsub__) a.f_Ratio___rsub__ cdv A outer s H E) rfl
  exact (sns_cons (sns_asg (sn_callG (n := 1) (π := [0]) (t_told_pair F) (hr.mono (by decide)) hg tk rfl F.g_told_pair F.F_told_pair.kp (kb_told_pair_1 F) repD_nil cdP (ca_pos (sna_cons (sn_var (i := 1)) sna_nil) rfl)) (sng_tup rfl rfl (sngs_cons (sng_name (i := 2) S.nd rfl (by first | exact Or.inl rfl | exact Or.inr rfl)) (sngs_cons (sng_name (i := 3) S.nd rfl (by first | exact Or.inl rfl | exact Or.inr rfl)) sngs_nil))))
    (sns_one (sns_ret (sn_makeG (c := 0) (n := 2) (nf := 2) (π := [1, 2]) (t_Ratio___init__ F) rfl rfl F.mk_Ratio (hr.mono (by decide)) hg tk rfl F.gm_Ratio (kb_Ratio___init___3 F) (repD_int repD_nil) (by decide) (ca_pos (sna_cons (sn_bin (op_subS op_bad) (sn_bin (op_mulI op_bad) (sn_var (i := 2)) (sn_fld (c := 0) (j := 1) (sn_var (i := 0)) rfl rfl F.cls_Ratio F.na_Ratio_own_bottom nd_Ratio rfl)) (sn_bin (op_mulI op_bad) (sn_fld (c := 0) (j := 0) (sn_var (i := 0)) rfl rfl F.cls_Ratio F.na_Ratio_own_top nd_Ratio rfl) (sn_var (i := 3)))) (sna_cons (sn_bin (op_mulI op_bad) (sn_fld (c := 0) (j := 1) (sn_var (i := 0)) rfl rfl F.cls_Ratio F.na_Ratio_own_bottom nd_Ratio rfl) (sn_var (i := 3))) sna_nil)) rfl)))))
/-! ### Ratio.sign -/
def d_Ratio_sign : DF := runB 1 (
    (sRet (dBin (oSub (oOwn 0 d_Ratio___sub__ d_Ratio___rsub__ bad2)) (bindE (dCons (dBin (oGt bad2) (dFld 0 0 (dVar 0)) (dC (.int 0))) dNil) oInt) (bindE (dCons (dBin (oLt bad2) (dFld 0 0 (dVar 0)) (dC (.int 0))) dNil) oInt))))
theorem t_Ratio_sign {prog : Program} {w : World} {K : PySem.W.Frag} {mg : Str → Option Value} {base : Heap} {a : AD} (F : PF K mg a) : FnD prog w K mg base (PR K a) 5 true a.f_Ratio_sign a.fd_Ratio_sign ["self"] d_Ratio_sign := by
  have S : FnScope ["self"] ["self"] (defScope s_Ratio_sign) := ⟨rfl, rfl, rfl, by decide +kernel, rfl, by decide +kernel, by decide +kernel⟩
  refine FnD.mono (g := true) (k := 5) (FnD.of_fun F.F_Ratio_sign S fun cdv A outer s H E hr hg => ?_) (Nat.le_refl _)
  have tk := takes_of (X := cxOf (L2.CX prog w) prog w K mg base ["self"] "Ratio.sign" (defScope s_Ratio_sign) a.f_Ratio_sign cdv A outer s H E) rfl rfl rfl rfl
  have hp := passes_of (X := cxOf (L2.CX prog w) prog w K mg base ["self"] "Ratio.sign" (defScope s_Ratio_sign) a.f_Ratio_sign cdv A outer s H E) rfl
  exact (sns_one (sns_ret (sn_bin (op_subS (op_own (c := 0) rfl F.op_Ratio_sub dec_sub (t_Ratio___sub__ F) (t_Ratio___rsub__ F) (hr.mono (by decide)) (hr.mono (by decide)) hg hg tk (b_Ratio___sub__ F) (b_Ratio___rsub__ F) rfl rfl op_bad)) (sn_cbT cs_int rfl F.b_int (by decide +kernel) (sna_cons (sn_cmp (op_gtS op_bad) (sn_fld (c := 0) (j := 0) (sn_var (i := 0)) rfl rfl F.cls_Ratio F.na_Ratio_own_top nd_Ratio rfl) sn_int) sna_nil)) (sn_cbT cs_int rfl F.b_int (by decide +kernel) (sna_cons (sn_cmp (op_ltS op_bad) (sn_fld (c := 0) (j := 0) (sn_var (i := 0)) rfl rfl F.cls_Ratio F.na_Ratio_own_top nd_Ratio rfl) sn_int) sna_nil)))))
/-! ### Ratio.__add__ -/
def d_Ratio___add__ : DF := runB 4 (
    (sSeq (sAsg (dCall [0] [] (callP d_told_pair) (bindE (dCons (dVar 1) dNil) fun xs => if xs.length = 1 then retE xs else badE)) (gTupD 2 (gsCons (gSet 2) (gsCons (gSet 3) gsNil))))
    (sRet (dCall [0, 1] [.pv (.int 1)] (mkIns 0 2 d_Ratio___init__) (bindE (dCons (dBin (oAddI (oAddS (oAddL bad2))) (dBin (oMulI bad2) (dFld 0 0 (dVar 0)) (dVar 3)) (dBin (oMulI bad2) (dVar 2) (dFld 0 1 (dVar 0)))) (dCons (dBin (oMulI bad2) (dFld 0 1 (dVar 0)) (dVar 3)) dNil)) fun xs => if xs.length = 2 then retE xs else badE)))))
theorem t_Ratio___add__ {prog : Program} {w : World} {K : PySem.W.Frag} {mg : Str → Option Value} {base : Heap} {a : AD} (F : PF K mg a) : FnD prog w K mg base (PR K a) 4 true a.f_Ratio___add__ a.fd_Ratio___add__ ["self", "other"] d_Ratio___add__ := by
  have S : FnScope ["self", "other", "top", "bottom"] ["self", "other"] (defScope s_Ratio___add__) := ⟨rfl, rfl, rfl, by decide +kernel, rfl, by decide +kernel, by decide +kernel⟩
  refine FnD.mono (g := true) (k := 4) (FnD.of_fun F.F_Ratio___add__ S fun cdv A outer s H E hr hg => ?_) (Nat.le_refl _)
  have tk := takes_of (X := cxOf (L2.CX prog w) prog w K mg base ["self", "other", "top", "bottom"] "Ratio.__add__" (defScope s_Ratio___add__) a.f_Ratio___add__ cdv A outer s H E) rfl rfl rfl rfl
  have hp := passes_of (X := cxOf (L2.CX prog w) prog w K mg base ["self", "other", "top", "bottom"] "Ratio.__add__" (defScope s_Ratio___add__) a.f_Ratio___add__ cdv A outer s H E) rfl
  exact (sns_cons (sns_asg (sn_callG (n := 1) (π := [0]) (t_told_pair F) (hr.mono (by decide)) hg tk rfl F.g_told_pair F.F_told_pair.kp (kb_told_pair_1 F) repD_nil cdP (ca_pos (sna_cons (sn_var (i := 1)) sna_nil) rfl)) (sng_tup rfl rfl (sngs_cons (sng_name (i := 2) S.nd rfl (by first | exact Or.inl rfl | exact Or.inr rfl)) (sngs_cons (sng_name (i := 3) S.nd rfl (by first | exact Or.inl rfl | exact Or.inr rfl)) sngs_nil))))
    (sns_one (sns_ret (sn_makeG (c := 0) (n := 2) (nf := 2) (π := [1, 2]) (t_Ratio___init__ F) rfl rfl F.mk_Ratio (hr.mono (by decide)) hg tk rfl F.gm_Ratio (kb_Ratio___init___3 F) (repD_int repD_nil) (by decide) (ca_pos (sna_cons (sn_bin (op_addI (op_addS (op_addL op_bad))) (sn_bin (op_mulI op_bad) (sn_fld (c := 0) (j := 0) (sn_var (i := 0)) rfl rfl F.cls_Ratio F.na_Ratio_own_top nd_Ratio rfl) (sn_var (i := 3))) (sn_bin (op_mulI op_bad) (sn_var (i := 2)) (sn_fld (c := 0) (j := 1) (sn_var (i := 0)) rfl rfl F.cls_Ratio F.na_Ratio_own_bottom nd_Ratio rfl))) (sna_cons (sn_bin (op_mulI op_bad) (sn_fld (c := 0) (j := 1) (sn_var (i := 0)) rfl rfl F.cls_Ratio F.na_Ratio_own_bottom nd_Ratio rfl) (sn_var (i := 3))) sna_nil)) rfl)))))
/-! ### Ratio.__radd__ -/
def d_Ratio___radd__ : DF := runB 4 (
    (sSeq (sAsg (dCall [0] [] (callP d_told_pair) (bindE (dCons (dVar 1) dNil) fun xs => if xs.length = 1 then retE xs else badE)) (gTupD 2 (gsCons (gSet 2) (gsCons (gSet 3) gsNil))))
    (sRet (dCall [0, 1] [.pv (.int 1)] (mkIns 0 2 d_Ratio___init__) (bindE (dCons (dBin (oAddI (oAddS (oAddL bad2))) (dBin (oMulI bad2) (dFld 0 0 (dVar 0)) (dVar 3)) (dBin (oMulI bad2) (dVar 2) (dFld 0 1 (dVar 0)))) (dCons (dBin (oMulI bad2) (dFld 0 1 (dVar 0)) (dVar 3)) dNil)) fun xs => if xs.length = 2 then retE xs else badE)))))
theorem t_Ratio___radd__ {prog : Program} {w : World} {K : PySem.W.Frag} {mg : Str → Option Value} {base : Heap} {a : AD} (F : PF K mg a) : FnD prog w K mg base (PR K a) 4 true a.f_Ratio___radd__ a.fd_Ratio___radd__ ["self", "other"] d_Ratio___radd__ := by
  have S : FnScope ["self", "other", "top", "bottom"] ["self", "other"] (defScope s_Ratio___radd__) := ⟨rfl, rfl, rfl, by decide +kernel, rfl, by decide +kernel, by decide +kernel⟩
  refine FnD.mono (g := true) (k := 4) (FnD.of_fun F.F_Ratio___radd__ S fun cdv A outer s H E hr hg => ?_) (Nat.le_refl _)
  have tk := takes_of (X := cxOf (L2.CX prog w) prog w K mg base ["self", "other", "top", "bottom"] "Ratio.__radd__" (defScope s_Ratio___radd__) a.f_Ratio___radd__ cdv A outer s H E) rfl rfl rfl rfl
  have hp := passes_of (X := cxOf (L2.CX prog w) prog w K mg base ["self", "other", "top", "bottom"] "Ratio.__radd__" (defScope s_Ratio___radd__) a.f_Ratio___radd__ cdv A outer s H E) rfl
  exact (sns_cons (sns_asg (sn_callG (n := 1) (π := [0]) (t_told_pair F) (hr.mono (by decide)) hg tk rfl F.g_told_pair F.F_told_pair.kp (kb_told_pair_1 F) repD_nil cdP (ca_pos (sna_cons (sn_var (i := 1)) sna_nil) rfl)) (sng_tup rfl rfl (sngs_cons (sng_name (i := 2) S.nd rfl (by first | exact Or.inl rfl | exact Or.inr rfl)) (sngs_cons (sng_name (i := 3) S.nd rfl (by first | exact Or.inl rfl | exact Or.inr rfl)) sngs_nil))))
    (sns_one (sns_ret (sn_makeG (c := 0) (n := 2) (nf := 2) (π := [1, 2]) (t_Ratio___init__ F) rfl rfl F.mk_Ratio (hr.mono (by decide)) hg tk rfl F.gm_Ratio (kb_Ratio___init___3 F) (repD_int repD_nil) (by decide) (ca_pos (sna_cons (sn_bin (op_addI (op_addS (op_addL op_bad))) (sn_bin (op_mulI op_bad) (sn_fld (c := 0) (j := 0) (sn_var (i := 0)) rfl rfl F.cls_Ratio F.na_Ratio_own_top nd_Ratio rfl) (sn_var (i := 3))) (sn_bin (op_mulI op_bad) (sn_var (i := 2)) (sn_fld (c := 0) (j := 1) (sn_var (i := 0)) rfl rfl F.cls_Ratio F.na_Ratio_own_bottom nd_Ratio rfl))) (sna_cons (sn_bin (op_mulI op_bad) (sn_fld (c := 0) (j := 1) (sn_var (i := 0)) rfl rfl F.cls_Ratio F.na_Ratio_own_bottom nd_Ratio rfl) (sn_var (i := 3))) sna_nil)) rfl)))))
/-! ### Ratio.__str__ -/
def d_Ratio___str__ : DF := runB 1 (
    (sSeq (sIf (tB (dBin (oEqP false bad2) (dFld 0 1 (dVar 0)) (dC (.int 1)))) (sRet (dFmt (dCall [0] [] (callP d_digits_of) (bindE (dCons (dFld 0 0 (dVar 0)) dNil) fun xs => if xs.length = 1 then retE xs else badE)))) sNil)
    (sRet (dJoin [(dFmt (dCall [0] [] (callP d_digits_of) (bindE (dCons (dFld 0 0 (dVar 0)) dNil) fun xs => if xs.length = 1 then retE xs else badE))), (dC (.str "/")), (dFmt (dCall [0] [] (callP d_digits_of) (bindE (dCons (dFld 0 1 (dVar 0)) dNil) fun xs => if xs.length = 1 then retE xs else badE)))] Str.empty))))
theorem t_Ratio___str__ {prog : Program} {w : World} {K : PySem.W.Frag} {mg : Str → Option Value} {base : Heap} {a : AD} (F : PF K mg a) : FnD prog w K mg base (PR K a) 2 true a.f_Ratio___str__ a.fd_Ratio___str__ ["self"] d_Ratio___str__ := by
  have S : FnScope ["self"] ["self"] (defScope s_Ratio___str__) := ⟨rfl, rfl, rfl, by decide +kernel, rfl, by decide +kernel, by decide +kernel⟩
  refine FnD.mono (g := true) (k := 2) (FnD.of_fun F.F_Ratio___str__ S fun cdv A outer s H E hr hg => ?_) (Nat.le_refl _)
  have tk := takes_of (X := cxOf (L2.CX prog w) prog w K mg base ["self"] "Ratio.__str__" (defScope s_Ratio___str__) a.f_Ratio___str__ cdv A outer s H E) rfl rfl rfl rfl
  have hp := passes_of (X := cxOf (L2.CX prog w) prog w K mg base ["self"] "Ratio.__str__" (defScope s_Ratio___str__) a.f_Ratio___str__ cdv A outer s H E) rfl
  exact (sns_cons (sns_if (snt_cmp (op_eqP op_bad) (sn_fld (c := 0) (j := 1) (sn_var (i := 0)) rfl rfl F.cls_Ratio F.na_Ratio_own_bottom nd_Ratio rfl) sn_int) (sns_one (sns_ret (sn_joined1 (sn_fmt (sn_callG (n := 1) (π := [0]) (t_digits_of F) (hr.mono (by decide)) hg tk rfl F.g_digits_of F.F_digits_of.kp (kb_digits_of_1 F) repD_nil cdP (ca_pos (sna_cons (sn_fld (c := 0) (j := 0) (sn_var (i := 0)) rfl rfl F.cls_Ratio F.na_Ratio_own_top nd_Ratio rfl) sna_nil) rfl)))))) sns_nil)
    (sns_one (sns_ret (sn_joined (.cons (sn_fmt (sn_callG (n := 1) (π := [0]) (t_digits_of F) (hr.mono (by decide)) hg tk rfl F.g_digits_of F.F_digits_of.kp (kb_digits_of_1 F) repD_nil cdP (ca_pos (sna_cons (sn_fld (c := 0) (j := 0) (sn_var (i := 0)) rfl rfl F.cls_Ratio F.na_Ratio_own_top nd_Ratio rfl) sna_nil) rfl))) (.cons sn_str (.cons (sn_fmt (sn_callG (n := 1) (π := [0]) (t_digits_of F) (hr.mono (by decide)) hg tk rfl F.g_digits_of F.F_digits_of.kp (kb_digits_of_1 F) repD_nil cdP (ca_pos (sna_cons (sn_fld (c := 0) (j := 1) (sn_var (i := 0)) rfl rfl F.cls_Ratio F.na_Ratio_own_bottom nd_Ratio rfl) sna_nil) rfl))) .nil)))))))
/-! ### _law_common -/
def d__law_common : DF := runB 4 (
    (sSeq (sPar 2 3 (dCons (bindE (dCons (dVar 0) dNil) oAbs) (dCons (bindE (dCons (dVar 1) dNil) oAbs) dNil)))
    (sSeq (whileF (tB (dBin (oGt bad2) (dVar 3) (dC (.int 0)))) (sPar 2 3 (dCons (dVar 3) (dCons (dBin (oMod bad2) (dVar 2) (dVar 3)) dNil))) 100000)
    (sRet (dVar 2)))))
theorem t__law_common {prog : Program} {w : World} {K : PySem.W.Frag} {mg : Str → Option Value} {base : Heap} {a : AD} (F : PF K mg a) : FnD prog w K mg base (PR K a) 1 true a.f__law_common a.fd__law_common ["_law_one", "_law_other"] d__law_common := by
  have S : FnScope ["_law_one", "_law_other", "_law_near", "_law_far"] ["_law_one", "_law_other"] (defScope s__law_common) := ⟨rfl, rfl, rfl, by decide +kernel, rfl, by decide +kernel, by decide +kernel⟩
  refine FnD.mono (g := true) (k := 1) (FnD.of_fun F.F__law_common S fun cdv A outer s H E hr hg => ?_) (Nat.le_refl _)
  have tk := takes_of (X := cxOf (L2.CX prog w) prog w K mg base ["_law_one", "_law_other", "_law_near", "_law_far"] "_law_common" (defScope s__law_common) a.f__law_common cdv A outer s H E) rfl rfl rfl rfl
  have hp := passes_of (X := cxOf (L2.CX prog w) prog w K mg base ["_law_one", "_law_other", "_law_near", "_law_far"] "_law_common" (defScope s__law_common) a.f__law_common cdv A outer s H E) rfl
  exact (sns_cons (sns_par (i := 2) (j := 3) rfl S.nd rfl rfl (by decide) rfl rfl (sna_cons (sn_cb cs_abs rfl F.b_abs (by decide +kernel) (sna_cons (sn_var (i := 0)) sna_nil)) (sna_cons (sn_cb cs_abs rfl F.b_abs (by decide +kernel) (sna_cons (sn_var (i := 1)) sna_nil)) sna_nil)) (by rfl))
    (sns_cons (sns_while 100000 hp (snt_cmp (op_gtS op_bad) (sn_var (i := 3)) sn_int) (sns_one (sns_par (i := 2) (j := 3) rfl S.nd rfl rfl (by decide) rfl rfl (sna_cons (sn_var (i := 3)) (sna_cons (sn_bin (op_modS op_bad) (sn_var (i := 2)) (sn_var (i := 3))) sna_nil)) (by rfl))))
    (sns_one (sns_ret (sn_var (i := 2))))))
/-! ### Ratio.__mul__ -/
def d_Ratio___mul__ : DF := runB 4 (
    (sSeq (sAsg (dCall [0] [] (callP d_told_pair) (bindE (dCons (dVar 1) dNil) fun xs => if xs.length = 1 then retE xs else badE)) (gTupD 2 (gsCons (gSet 2) (gsCons (gSet 3) gsNil))))
    (sRet (dCall [0, 1] [.pv (.int 1)] (mkIns 0 2 d_Ratio___init__) (bindE (dCons (dBin (oMulI bad2) (dFld 0 0 (dVar 0)) (dVar 2)) (dCons (dBin (oMulI bad2) (dFld 0 1 (dVar 0)) (dVar 3)) dNil)) fun xs => if xs.length = 2 then retE xs else badE)))))
theorem t_Ratio___mul__ {prog : Program} {w : World} {K : PySem.W.Frag} {mg : Str → Option Value} {base : Heap} {a : AD} (F : PF K mg a) : FnD prog w K mg base (PR K a) 4 true a.f_Ratio___mul__ a.fd_Ratio___mul__ ["self", "other"] d_Ratio___mul__ := by
  have S : FnScope ["self", "other", "top", "bottom"] ["self", "other"] (defScope s_Ratio___mul__) := ⟨rfl, rfl, rfl, by decide +kernel, rfl, by decide +kernel, by decide +kernel⟩
  refine FnD.mono (g := true) (k := 4) (FnD.of_fun F.F_Ratio___mul__ S fun cdv A outer s H E hr hg => ?_) (Nat.le_refl _)
  have tk := takes_of (X := cxOf (L2.CX prog w) prog w K mg base ["self", "other", "top", "bottom"] "Ratio.__mul__" (defScope s_Ratio___mul__) a.f_Ratio___mul__ cdv A outer s H E) rfl rfl rfl rfl
  have hp := passes_of (X := cxOf (L2.CX prog w) prog w K mg base ["self", "other", "top", "bottom"] "Ratio.__mul__" (defScope s_Ratio___mul__) a.f_Ratio___mul__ cdv A outer s H E) rfl
  exact (sns_cons (sns_asg (sn_callG (n := 1) (π := [0]) (t_told_pair F) (hr.mono (by decide)) hg tk rfl F.g_told_pair F.F_told_pair.kp (kb_told_pair_1 F) repD_nil cdP (ca_pos (sna_cons (sn_var (i := 1)) sna_nil) rfl)) (sng_tup rfl rfl (sngs_cons (sng_name (i := 2) S.nd rfl (by first | exact Or.inl rfl | exact Or.inr rfl)) (sngs_cons (sng_name (i := 3) S.nd rfl (by first | exact Or.inl rfl | exact Or.inr rfl)) sngs_nil))))
    (sns_one (sns_ret (sn_makeG (c := 0) (n := 2) (nf := 2) (π := [1, 2]) (t_Ratio___init__ F) rfl rfl F.mk_Ratio (hr.mono (by decide)) hg tk rfl F.gm_Ratio (kb_Ratio___init___3 F) (repD_int repD_nil) (by decide) (ca_pos (sna_cons (sn_bin (op_mulI op_bad) (sn_fld (c := 0) (j := 0) (sn_var (i := 0)) rfl rfl F.cls_Ratio F.na_Ratio_own_top nd_Ratio rfl) (sn_var (i := 2))) (sna_cons (sn_bin (op_mulI op_bad) (sn_fld (c := 0) (j := 1) (sn_var (i := 0)) rfl rfl F.cls_Ratio F.na_Ratio_own_bottom nd_Ratio rfl) (sn_var (i := 3))) sna_nil)) rfl)))))
/-! ### Ratio.__rmul__ -/
def d_Ratio___rmul__ : DF := runB 4 (
    (sSeq (sAsg (dCall [0] [] (callP d_told_pair) (bindE (dCons (dVar 1) dNil) fun xs => if xs.length = 1 then retE xs else badE)) (gTupD 2 (gsCons (gSet 2) (gsCons (gSet 3) gsNil))))
    (sRet (dCall [0, 1] [.pv (.int 1)] (mkIns 0 2 d_Ratio___init__) (bindE (dCons (dBin (oMulI bad2) (dFld 0 0 (dVar 0)) (dVar 2)) (dCons (dBin (oMulI bad2) (dFld 0 1 (dVar 0)) (dVar 3)) dNil)) fun xs => if xs.length = 2 then retE xs else badE)))))
theorem t_Ratio___rmul__ {prog : Program} {w : World} {K : PySem.W.Frag} {mg : Str → Option Value} {base : Heap} {a : AD} (F : PF K mg a) : FnD prog w K mg base (PR K a) 4 true a.f_Ratio___rmul__ a.fd_Ratio___rmul__ ["self", "other"] d_Ratio___rmul__ := by
  have S : FnScope ["self", "other", "top", "bottom"] ["self", "other"] (defScope s_Ratio___rmul__) := ⟨rfl, rfl, rfl, by decide +kernel, rfl, by decide +kernel, by decide +kernel⟩
  refine FnD.mono (g := true) (k := 4) (FnD.of_fun F.F_Ratio___rmul__ S fun cdv A outer s H E hr hg => ?_) (Nat.le_refl _)
  have tk := takes_of (X := cxOf (L2.CX prog w) prog w K mg base ["self", "other", "top", "bottom"] "Ratio.__rmul__" (defScope s_Ratio___rmul__) a.f_Ratio___rmul__ cdv A outer s H E) rfl rfl rfl rfl
  have hp := passes_of (X := cxOf (L2.CX prog w) prog w K mg base ["self", "other", "top", "bottom"] "Ratio.__rmul__" (defScope s_Ratio___rmul__) a.f_Ratio___rmul__ cdv A outer s H E) rfl
  exact (sns_cons (sns_asg (sn_callG (n := 1) (π := [0]) (t_told_pair F) (hr.mono (by decide)) hg tk rfl F.g_told_pair F.F_told_pair.kp (kb_told_pair_1 F) repD_nil cdP (ca_pos (sna_cons (sn_var (i := 1)) sna_nil) rfl)) (sng_tup rfl rfl (sngs_cons (sng_name (i := 2) S.nd rfl (by first | exact Or.inl rfl | exact Or.inr rfl)) (sngs_cons (sng_name (i := 3) S.nd rfl (by first | exact Or.inl rfl | exact Or.inr rfl)) sngs_nil))))
    (sns_one (sns_ret (sn_makeG (c := 0) (n := 2) (nf := 2) (π := [1, 2]) (t_Ratio___init__ F) rfl rfl F.mk_Ratio (hr.mono (by decide)) hg tk rfl F.gm_Ratio (kb_Ratio___init___3 F) (repD_int repD_nil) (by decide) (ca_pos (sna_cons (sn_bin (op_mulI op_bad) (sn_fld (c := 0) (j := 0) (sn_var (i := 0)) rfl rfl F.cls_Ratio F.na_Ratio_own_top nd_Ratio rfl) (sn_var (i := 2))) (sna_cons (sn_bin (op_mulI op_bad) (sn_fld (c := 0) (j := 1) (sn_var (i := 0)) rfl rfl F.cls_Ratio F.na_Ratio_own_bottom nd_Ratio rfl) (sn_var (i := 3))) sna_nil)) rfl)))))
/-! ### _law_is -/
def d__law_is : DF := runB 5 (
    (sSeq (sIf (tOrD (tNotD (tB (dIsi aisi_Ratio (dVar 0)))) (tOrD (tB (dBin (oLt bad2) (dProp 0 d_Ratio_bottom (dVar 0)) (dC (.int 1)))) (tOrD (tB (dBin (oEqP true (oNeO 0 d_Ratio___eq__ bad2)) (dBin (oMulI (oOwn 0 d_Ratio___mul__ d_Ratio___rmul__ bad2)) (dProp 0 d_Ratio_top (dVar 0)) (dVar 2)) (dBin (oMulI (oOwn 0 d_Ratio___mul__ d_Ratio___rmul__ bad2)) (dVar 1) (dProp 0 d_Ratio_bottom (dVar 0))))) (tB (dBin (oEqP true (oNeO 0 d_Ratio___eq__ bad2)) (dCall [0, 1] [] (callP d__law_common) (bindE (dCons (dProp 0 d_Ratio_top (dVar 0)) (dCons (dProp 0 d_Ratio_bottom (dVar 0)) dNil)) fun xs => if xs.length = 2 then retE xs else badE)) (dC (.int 1))))))) (sRet (dC (.bl false))) sNil)
    (sSeq (sSet 3 (dBin (oAddI (oAddS (oAddL (oOwn 0 d_Ratio___add__ d_Ratio___radd__ bad2)))) (bindE (dCons (dProp 0 d_Ratio_top (dVar 0)) dNil) (oOwn1 0 d_Ratio___str__ oStr)) (dIf (tB (dBin (oEqP true (oNeO 0 d_Ratio___eq__ bad2)) (dProp 0 d_Ratio_bottom (dVar 0)) (dC (.int 1)))) (dBin (oAddI (oAddS (oAddL (oOwn 0 d_Ratio___add__ d_Ratio___radd__ bad2)))) (dC (.str "/")) (bindE (dCons (dProp 0 d_Ratio_bottom (dVar 0)) dNil) (oOwn1 0 d_Ratio___str__ oStr))) (dC (.str "")))))
    (sSeq (sIf (tOrD (tB (dBin (oEqP true (oNeO 0 d_Ratio___eq__ bad2)) (bindE (dCons (dVar 0) dNil) (oOwn1 0 d_Ratio___str__ oStr)) (dVar 3))) (tB (dBin (oEqP true (oNeO 0 d_Ratio___eq__ bad2)) (bindE (dCons (dVar 0) dNil) (oOwn1 0 d_Ratio___repr__ (oReprL badL))) (dBin (oAddI (oAddS (oAddL (oOwn 0 d_Ratio___add__ d_Ratio___radd__ bad2)))) (dBin (oAddI (oAddS (oAddL (oOwn 0 d_Ratio___add__ d_Ratio___radd__ bad2)))) (dBin (oAddI (oAddS (oAddL (oOwn 0 d_Ratio___add__ d_Ratio___radd__ bad2)))) (dBin (oAddI (oAddS (oAddL (oOwn 0 d_Ratio___add__ d_Ratio___radd__ bad2)))) (dC (.str "Ratio(")) (bindE (dCons (dProp 0 d_Ratio_top (dVar 0)) dNil) (oOwn1 0 d_Ratio___str__ oStr))) (dC (.str ", "))) (bindE (dCons (dProp 0 d_Ratio_bottom (dVar 0)) dNil) (oOwn1 0 d_Ratio___str__ oStr))) (dC (.str ")")))))) (sRet (dC (.bl false))) sNil)
    (sSeq (sSet 4 (dBin (oSub (oOwn 0 d_Ratio___sub__ d_Ratio___rsub__ bad2)) (bindE (dCons (dBin (oGt bad2) (dProp 0 d_Ratio_top (dVar 0)) (dC (.int 0))) dNil) oInt) (bindE (dCons (dBin (oLt bad2) (dProp 0 d_Ratio_top (dVar 0)) (dC (.int 0))) dNil) oInt)))
    (sRet (dAndV (dBin (oEqP false (oEqO 0 d_Ratio___eq__ bad2)) (bindE (dCons (bindE (dCons (dProp 0 d_Ratio_sign (dVar 0)) (dCons (dProp 0 d_Ratio_is_whole (dVar 0)) dNil)) mkLst) dNil) (oOwn1 0 d_Ratio___repr__ (oReprL badL))) (bindE (dCons (bindE (dCons (dVar 4) (dCons (dBin (oEqP false (oEqO 0 d_Ratio___eq__ bad2)) (dProp 0 d_Ratio_bottom (dVar 0)) (dC (.int 1))) dNil)) mkLst) dNil) (oOwn1 0 d_Ratio___repr__ (oReprL badL)))) (dBin (oEqP false (oEqO 0 d_Ratio___eq__ bad2)) (dMethG 0 [0] (callP d_Ratio_size) [] (dVar 0) dNil) (dCall [0, 1] [.pv (.int 1)] (mkIns 0 2 d_Ratio___init__) (bindE (dCons (bindE (dCons (dProp 0 d_Ratio_top (dVar 0)) dNil) oAbs) (dCons (dProp 0 d_Ratio_bottom (dVar 0)) dNil)) fun xs => if xs.length = 2 then retE xs else badE))))))))))
theorem t__law_is {prog : Program} {w : World} {K : PySem.W.Frag} {mg : Str → Option Value} {base : Heap} {a : AD} (F : PF K mg a) : FnD prog w K mg base (PR K a) 7 true a.f__law_is a.fd__law_is ["_law_ratio", "_law_top_here", "_law_bottom"] d__law_is := by
  have S : FnScope ["_law_ratio", "_law_top_here", "_law_bottom", "_law_text", "_law_sign"] ["_law_ratio", "_law_top_here", "_law_bottom"] (defScope s__law_is) := ⟨rfl, rfl, rfl, by decide +kernel, rfl, by decide +kernel, by decide +kernel⟩
  refine FnD.mono (g := true) (k := 7) (FnD.of_fun F.F__law_is S fun cdv A outer s H E hr hg => ?_) (Nat.le_refl _)
  have tk := takes_of (X := cxOf (L2.CX prog w) prog w K mg base ["_law_ratio", "_law_top_here", "_law_bottom", "_law_text", "_law_sign"] "_law_is" (defScope s__law_is) a.f__law_is cdv A outer s H E) rfl rfl rfl rfl
  have hp := passes_of (X := cxOf (L2.CX prog w) prog w K mg base ["_law_ratio", "_law_top_here", "_law_bottom", "_law_text", "_law_sign"] "_law_is" (defScope s__law_is) a.f__law_is cdv A outer s H E) rfl
  exact (sns_cons (sns_if (SnW.t (snw_or (snt_not (snt_val (sn_isi rfl (clsAll F) (.own _) (isi_Ratio F) (sn_var (i := 0)) (pe_cn rfl F.gm_Ratio) rfl F.b_isinstance))) (snw_or (snt_cmp (op_ltS op_bad) (sn_prop (c := 0) (sn_var (i := 0)) rfl F.cls_Ratio F.p_Ratio_bottom (t_Ratio_bottom F) (hr.mono (by decide)) hg (b_Ratio_bottom F) rfl) sn_int) (snw_or (snt_cmp (op_neP (op_neO (c := 0) rfl F.eq_Ratio (t_Ratio___eq__ F) (hr.mono (by decide)) hg tk (b_Ratio___eq__ F) rfl op_bad)) (sn_bin (op_mulI (op_own (c := 0) rfl F.op_Ratio_mul dec_mul (t_Ratio___mul__ F) (t_Ratio___rmul__ F) (hr.mono (by decide)) (hr.mono (by decide)) hg hg tk (b_Ratio___mul__ F) (b_Ratio___rmul__ F) rfl rfl op_bad)) (sn_prop (c := 0) (sn_var (i := 0)) rfl F.cls_Ratio F.p_Ratio_top (t_Ratio_top F) (hr.mono (by decide)) hg (b_Ratio_top F) rfl) (sn_var (i := 2))) (sn_bin (op_mulI (op_own (c := 0) rfl F.op_Ratio_mul dec_mul (t_Ratio___mul__ F) (t_Ratio___rmul__ F) (hr.mono (by decide)) (hr.mono (by decide)) hg hg tk (b_Ratio___mul__ F) (b_Ratio___rmul__ F) rfl rfl op_bad)) (sn_var (i := 1)) (sn_prop (c := 0) (sn_var (i := 0)) rfl F.cls_Ratio F.p_Ratio_bottom (t_Ratio_bottom F) (hr.mono (by decide)) hg (b_Ratio_bottom F) rfl))) (snw_or1 (snt_cmp (op_neP (op_neO (c := 0) rfl F.eq_Ratio (t_Ratio___eq__ F) (hr.mono (by decide)) hg tk (b_Ratio___eq__ F) rfl op_bad)) (sn_callG (n := 2) (π := [0, 1]) (t__law_common F) (hr.mono (by decide)) hg tk rfl F.g__law_common F.F__law_common.kp (kb__law_common_2 F) repD_nil cdP (ca_pos (sna_cons (sn_prop (c := 0) (sn_var (i := 0)) rfl F.cls_Ratio F.p_Ratio_top (t_Ratio_top F) (hr.mono (by decide)) hg (b_Ratio_top F) rfl) (sna_cons (sn_prop (c := 0) (sn_var (i := 0)) rfl F.cls_Ratio F.p_Ratio_bottom (t_Ratio_bottom F) (hr.mono (by decide)) hg (b_Ratio_bottom F) rfl) sna_nil)) rfl)) sn_int)))))) (sns_one (sns_ret sn_bl)) sns_nil)
    (sns_cons (sns_set (i := 3) S.nd rfl (by first | exact Or.inl rfl | exact Or.inr rfl) (sn_bin (op_addI (op_addS (op_addL (op_own (c := 0) rfl F.op_Ratio_add dec_add (t_Ratio___add__ F) (t_Ratio___radd__ F) (hr.mono (by decide)) (hr.mono (by decide)) hg hg tk (b_Ratio___add__ F) (b_Ratio___radd__ F) rfl rfl op_bad)))) (sn_cbT (cs_str (c := 0) rfl F.str_Ratio F.strf_Ratio (t_Ratio___str__ F) (hr.mono (by decide)) hg (b_Ratio___str__ F) rfl cs_strI) rfl F.b_str (by decide +kernel) (sna_cons (sn_prop (c := 0) (sn_var (i := 0)) rfl F.cls_Ratio F.p_Ratio_top (t_Ratio_top F) (hr.mono (by decide)) hg (b_Ratio_top F) rfl) sna_nil)) (sn_if (snt_cmp (op_neP (op_neO (c := 0) rfl F.eq_Ratio (t_Ratio___eq__ F) (hr.mono (by decide)) hg tk (b_Ratio___eq__ F) rfl op_bad)) (sn_prop (c := 0) (sn_var (i := 0)) rfl F.cls_Ratio F.p_Ratio_bottom (t_Ratio_bottom F) (hr.mono (by decide)) hg (b_Ratio_bottom F) rfl) sn_int) (sn_bin (op_addI (op_addS (op_addL (op_own (c := 0) rfl F.op_Ratio_add dec_add (t_Ratio___add__ F) (t_Ratio___radd__ F) (hr.mono (by decide)) (hr.mono (by decide)) hg hg tk (b_Ratio___add__ F) (b_Ratio___radd__ F) rfl rfl op_bad)))) sn_str (sn_cbT (cs_str (c := 0) rfl F.str_Ratio F.strf_Ratio (t_Ratio___str__ F) (hr.mono (by decide)) hg (b_Ratio___str__ F) rfl cs_strI) rfl F.b_str (by decide +kernel) (sna_cons (sn_prop (c := 0) (sn_var (i := 0)) rfl F.cls_Ratio F.p_Ratio_bottom (t_Ratio_bottom F) (hr.mono (by decide)) hg (b_Ratio_bottom F) rfl) sna_nil))) sn_str)))
    (sns_cons (sns_if (SnW.t (snw_or (snt_cmp (op_neP (op_neO (c := 0) rfl F.eq_Ratio (t_Ratio___eq__ F) (hr.mono (by decide)) hg tk (b_Ratio___eq__ F) rfl op_bad)) (sn_cbT (cs_str (c := 0) rfl F.str_Ratio F.strf_Ratio (t_Ratio___str__ F) (hr.mono (by decide)) hg (b_Ratio___str__ F) rfl cs_strI) rfl F.b_str (by decide +kernel) (sna_cons (sn_var (i := 0)) sna_nil)) (sn_var (i := 3))) (snw_or1 (snt_cmp (op_neP (op_neO (c := 0) rfl F.eq_Ratio (t_Ratio___eq__ F) (hr.mono (by decide)) hg tk (b_Ratio___eq__ F) rfl op_bad)) (sn_cb (cs_repr (c := 0) rfl F.repr_Ratio F.reprf_Ratio (t_Ratio___repr__ F) (hr.mono (by decide)) hg (b_Ratio___repr__ F) rfl (cs_reprL rfl (hg rfl) hr.units cs_bad)) rfl F.b_repr (by decide +kernel) (sna_cons (sn_var (i := 0)) sna_nil)) (sn_bin (op_addI (op_addS (op_addL (op_own (c := 0) rfl F.op_Ratio_add dec_add (t_Ratio___add__ F) (t_Ratio___radd__ F) (hr.mono (by decide)) (hr.mono (by decide)) hg hg tk (b_Ratio___add__ F) (b_Ratio___radd__ F) rfl rfl op_bad)))) (sn_bin (op_addI (op_addS (op_addL (op_own (c := 0) rfl F.op_Ratio_add dec_add (t_Ratio___add__ F) (t_Ratio___radd__ F) (hr.mono (by decide)) (hr.mono (by decide)) hg hg tk (b_Ratio___add__ F) (b_Ratio___radd__ F) rfl rfl op_bad)))) (sn_bin (op_addI (op_addS (op_addL (op_own (c := 0) rfl F.op_Ratio_add dec_add (t_Ratio___add__ F) (t_Ratio___radd__ F) (hr.mono (by decide)) (hr.mono (by decide)) hg hg tk (b_Ratio___add__ F) (b_Ratio___radd__ F) rfl rfl op_bad)))) (sn_bin (op_addI (op_addS (op_addL (op_own (c := 0) rfl F.op_Ratio_add dec_add (t_Ratio___add__ F) (t_Ratio___radd__ F) (hr.mono (by decide)) (hr.mono (by decide)) hg hg tk (b_Ratio___add__ F) (b_Ratio___radd__ F) rfl rfl op_bad)))) sn_str (sn_cbT (cs_str (c := 0) rfl F.str_Ratio F.strf_Ratio (t_Ratio___str__ F) (hr.mono (by decide)) hg (b_Ratio___str__ F) rfl cs_strI) rfl F.b_str (by decide +kernel) (sna_cons (sn_prop (c := 0) (sn_var (i := 0)) rfl F.cls_Ratio F.p_Ratio_top (t_Ratio_top F) (hr.mono (by decide)) hg (b_Ratio_top F) rfl) sna_nil))) sn_str) (sn_cbT (cs_str (c := 0) rfl F.str_Ratio F.strf_Ratio (t_Ratio___str__ F) (hr.mono (by decide)) hg (b_Ratio___str__ F) rfl cs_strI) rfl F.b_str (by decide +kernel) (sna_cons (sn_prop (c := 0) (sn_var (i := 0)) rfl F.cls_Ratio F.p_Ratio_bottom (t_Ratio_bottom F) (hr.mono (by decide)) hg (b_Ratio_bottom F) rfl) sna_nil))) sn_str))))) (sns_one (sns_ret sn_bl)) sns_nil)
    (sns_cons (sns_set (i := 4) S.nd rfl (by first | exact Or.inl rfl | exact Or.inr rfl) (sn_bin (op_subS (op_own (c := 0) rfl F.op_Ratio_sub dec_sub (t_Ratio___sub__ F) (t_Ratio___rsub__ F) (hr.mono (by decide)) (hr.mono (by decide)) hg hg tk (b_Ratio___sub__ F) (b_Ratio___rsub__ F) rfl rfl op_bad)) (sn_cbT cs_int rfl F.b_int (by decide +kernel) (sna_cons (sn_cmp (op_gtS op_bad) (sn_prop (c := 0) (sn_var (i := 0)) rfl F.cls_Ratio F.p_Ratio_top (t_Ratio_top F) (hr.mono (by decide)) hg (b_Ratio_top F) rfl) sn_int) sna_nil)) (sn_cbT cs_int rfl F.b_int (by decide +kernel) (sna_cons (sn_cmp (op_ltS op_bad) (sn_prop (c := 0) (sn_var (i := 0)) rfl F.cls_Ratio F.p_Ratio_top (t_Ratio_top F) (hr.mono (by decide)) hg (b_Ratio_top F) rfl) sn_int) sna_nil))))
    (sns_one (sns_ret (sn_and (sn_cmp (op_eqP (op_eqO (c := 0) rfl F.eq_Ratio (t_Ratio___eq__ F) (hr.mono (by decide)) hg tk (b_Ratio___eq__ F) rfl op_bad)) (sn_cb (cs_repr (c := 0) rfl F.repr_Ratio F.reprf_Ratio (t_Ratio___repr__ F) (hr.mono (by decide)) hg (b_Ratio___repr__ F) rfl (cs_reprL rfl (hg rfl) hr.units cs_bad)) rfl F.b_repr (by decide +kernel) (sna_cons (sn_lst (sna_cons (sn_prop (c := 0) (sn_var (i := 0)) rfl F.cls_Ratio F.p_Ratio_sign (t_Ratio_sign F) (hr.mono (by decide)) hg (b_Ratio_sign F) rfl) (sna_cons (sn_prop (c := 0) (sn_var (i := 0)) rfl F.cls_Ratio F.p_Ratio_is_whole (t_Ratio_is_whole F) (hr.mono (by decide)) hg (b_Ratio_is_whole F) rfl) sna_nil))) sna_nil)) (sn_cb (cs_repr (c := 0) rfl F.repr_Ratio F.reprf_Ratio (t_Ratio___repr__ F) (hr.mono (by decide)) hg (b_Ratio___repr__ F) rfl (cs_reprL rfl (hg rfl) hr.units cs_bad)) rfl F.b_repr (by decide +kernel) (sna_cons (sn_lst (sna_cons (sn_var (i := 4)) (sna_cons (sn_cmp (op_eqP (op_eqO (c := 0) rfl F.eq_Ratio (t_Ratio___eq__ F) (hr.mono (by decide)) hg tk (b_Ratio___eq__ F) rfl op_bad)) (sn_prop (c := 0) (sn_var (i := 0)) rfl F.cls_Ratio F.p_Ratio_bottom (t_Ratio_bottom F) (hr.mono (by decide)) hg (b_Ratio_bottom F) rfl) sn_int) sna_nil))) sna_nil))) (sn_one (sn_cmp (op_eqP (op_eqO (c := 0) rfl F.eq_Ratio (t_Ratio___eq__ F) (hr.mono (by decide)) hg tk (b_Ratio___eq__ F) rfl op_bad)) (sn_methG (c := 0) (n := 0) (π := [0]) (sn_var (i := 0)) rfl F.cls_Ratio F.m_Ratio_size (show ("size" : Str) ∉ (["own_top", "own_bottom"] : List Str) by decide +kernel) (t_Ratio_size F) (hr.mono (by decide)) hg tk (kb_Ratio_size_1 F) repD_nil cdP ca_nil) (sn_makeG (c := 0) (n := 2) (nf := 2) (π := [1, 2]) (t_Ratio___init__ F) rfl rfl F.mk_Ratio (hr.mono (by decide)) hg tk rfl F.gm_Ratio (kb_Ratio___init___3 F) (repD_int repD_nil) (by decide) (ca_pos (sna_cons (sn_cb cs_abs rfl F.b_abs (by decide +kernel) (sna_cons (sn_prop (c := 0) (sn_var (i := 0)) rfl F.cls_Ratio F.p_Ratio_top (t_Ratio_top F) (hr.mono (by decide)) hg (b_Ratio_top F) rfl) sna_nil)) (sna_cons (sn_prop (c := 0) (sn_var (i := 0)) rfl F.cls_Ratio F.p_Ratio_bottom (t_Ratio_bottom F) (hr.mono (by decide)) hg (b_Ratio_bottom F) rfl) sna_nil)) rfl)))))))))))
/-! ### total_of -/
def d_total_of : DF := runB 3 (
    (sSeq (sSet 1 (dCall [0, 1] [.pv (.int 1)] (mkIns 0 2 d_Ratio___init__) (bindE (dCons (dC (.int 0)) dNil) fun xs => if xs.length = 1 then retE xs else badE)))
    (sSeq (sFor (dItemsA (dVar 0)) (gSet 2) (sSet 1 (dBin (oAddI (oAddS (oAddL (oOwn 0 d_Ratio___add__ d_Ratio___radd__ bad2)))) (dVar 1) (dVar 2))))
    (sRet (dVar 1)))))
theorem t_total_of {prog : Program} {w : World} {K : PySem.W.Frag} {mg : Str → Option Value} {base : Heap} {a : AD} (F : PF K mg a) : FnD prog w K mg base (PR K a) 5 true a.f_total_of a.fd_total_of ["ratios"] d_total_of := by
  have S : FnScope ["ratios", "found", "ratio"] ["ratios"] (defScope s_total_of) := ⟨rfl, rfl, rfl, by decide +kernel, rfl, by decide +kernel, by decide +kernel⟩
  refine FnD.mono (g := true) (k := 5) (FnD.of_fun F.F_total_of S fun cdv A outer s H E hr hg => ?_) (Nat.le_refl _)
  have tk := takes_of (X := cxOf (L2.CX prog w) prog w K mg base ["ratios", "found", "ratio"] "total_of" (defScope s_total_of) a.f_total_of cdv A outer s H E) rfl rfl rfl rfl
  have hp := passes_of (X := cxOf (L2.CX prog w) prog w K mg base ["ratios", "found", "ratio"] "total_of" (defScope s_total_of) a.f_total_of cdv A outer s H E) rfl
  exact (sns_cons (sns_set (i := 1) S.nd rfl (by first | exact Or.inl rfl | exact Or.inr rfl) (sn_makeG (c := 0) (n := 1) (nf := 2) (π := [1, 2]) (t_Ratio___init__ F) rfl rfl F.mk_Ratio (hr.mono (by decide)) hg tk rfl F.gm_Ratio (kb_Ratio___init___2 F) (repD_int repD_nil) (by decide) (ca_pos (sna_cons sn_int sna_nil) rfl)))
    (sns_cons (sns_for hp rfl (sni_any rfl (sn_var (i := 0))) (sng_name (i := 2) S.nd rfl (by first | exact Or.inl rfl | exact Or.inr rfl)) (sns_one (sns_set (i := 1) S.nd rfl (by first | exact Or.inl rfl | exact Or.inr rfl) (sn_bin (op_addI (op_addS (op_addL (op_own (c := 0) rfl F.op_Ratio_add dec_add (t_Ratio___add__ F) (t_Ratio___radd__ F) (hr.mono (by decide)) (hr.mono (by decide)) hg hg tk (b_Ratio___add__ F) (b_Ratio___radd__ F) rfl rfl op_bad)))) (sn_var (i := 1)) (sn_var (i := 2))))))
    (sns_one (sns_ret (sn_var (i := 1))))))
/-! ### ratio_of -/
def d_ratio_of : DF := runB 1 (
    (sRet (dIf (tB (dIsi aisi_Ratio (dVar 0))) (dVar 0) (dCall [0, 1] [.pv (.int 1)] (mkIns 0 2 d_Ratio___init__) (bindE (dCons (dVar 0) dNil) fun xs => if xs.length = 1 then retE xs else badE)))))
theorem t_ratio_of {prog : Program} {w : World} {K : PySem.W.Frag} {mg : Str → Option Value} {base : Heap} {a : AD} (F : PF K mg a) : FnD prog w K mg base (PR K a) 4 true a.f_ratio_of a.fd_ratio_of ["number"] d_ratio_of := by
  have S : FnScope ["number"] ["number"] (defScope s_ratio_of) := ⟨rfl, rfl, rfl, by decide +kernel, rfl, by decide +kernel, by decide +kernel⟩
  refine FnD.mono (g := true) (k := 4) (FnD.of_fun F.F_ratio_of S fun cdv A outer s H E hr hg => ?_) (Nat.le_refl _)
  have tk := takes_of (X := cxOf (L2.CX prog w) prog w K mg base ["number"] "ratio_of" (defScope s_ratio_of) a.f_ratio_of cdv A outer s H E) rfl rfl rfl rfl
  have hp := passes_of (X := cxOf (L2.CX prog w) prog w K mg base ["number"] "ratio_of" (defScope s_ratio_of) a.f_ratio_of cdv A outer s H E) rfl
  exact (sns_one (sns_ret (sn_if (snt_val (sn_isi rfl (clsAll F) (.own _) (isi_Ratio F) (sn_var (i := 0)) (pe_cn rfl F.gm_Ratio) rfl F.b_isinstance)) (sn_var (i := 0)) (sn_makeG (c := 0) (n := 1) (nf := 2) (π := [1, 2]) (t_Ratio___init__ F) rfl rfl F.mk_Ratio (hr.mono (by decide)) hg tk rfl F.gm_Ratio (kb_Ratio___init___2 F) (repD_int repD_nil) (by decide) (ca_pos (sna_cons (sn_var (i := 0)) sna_nil) rfl)))))
/-! ### is_number -/
def d_is_number : DF := runB 1 (
    (sRet (dOrV (dCall [0] [] (callP d_is_integer) (bindE (dCons (dVar 0) dNil) fun xs => if xs.length = 1 then retE xs else badE)) (dIsi aisi_Ratio (dVar 0)))))
theorem t_is_number {prog : Program} {w : World} {K : PySem.W.Frag} {mg : Str → Option Value} {base : Heap} {a : AD} (F : PF K mg a) : FnD prog w K mg base (PR K a) 2 true a.f_is_number a.fd_is_number ["value"] d_is_number := by
  have S : FnScope ["value"] ["value"] (defScope s_is_number) := ⟨rfl, rfl, rfl, by decide +kernel, rfl, by decide +kernel, by decide +kernel⟩
  refine FnD.mono (g := true) (k := 2) (FnD.of_fun F.F_is_number S fun cdv A outer s H E hr hg => ?_) (Nat.le_refl _)
  have tk := takes_of (X := cxOf (L2.CX prog w) prog w K mg base ["value"] "is_number" (defScope s_is_number) a.f_is_number cdv A outer s H E) rfl rfl rfl rfl
  have hp := passes_of (X := cxOf (L2.CX prog w) prog w K mg base ["value"] "is_number" (defScope s_is_number) a.f_is_number cdv A outer s H E) rfl
  exact (sns_one (sns_ret (sn_or (sn_callG (n := 1) (π := [0]) (t_is_integer F) (hr.mono (by decide)) hg tk rfl F.g_is_integer F.F_is_integer.kp (kb_is_integer_1 F) repD_nil cdP (ca_pos (sna_cons (sn_var (i := 0)) sna_nil) rfl)) (sn_one (sn_isi rfl (clsAll F) (.own _) (isi_Ratio F) (sn_var (i := 0)) (pe_cn rfl F.gm_Ratio) rfl F.b_isinstance)))))
/-! ### want_number -/
def d_want_number : DF := runB 1 (
    (sSeq (sIf (tNotD (tB (dCall [0] [] (callP d_is_number) (bindE (dCons (dVar 0) dNil) fun xs => if xs.length = 1 then retE xs else badE)))) sBad sNil)
    (sRet (dCall [0] [] (callP d_ratio_of) (bindE (dCons (dVar 0) dNil) fun xs => if xs.length = 1 then retE xs else badE)))))
theorem t_want_number {prog : Program} {w : World} {K : PySem.W.Frag} {mg : Str → Option Value} {base : Heap} {a : AD} (F : PF K mg a) : FnD prog w K mg base (PR K a) 5 true a.f_want_number a.fd_want_number ["value"] d_want_number := by
  have S : FnScope ["value"] ["value"] (defScope s_want_number) := ⟨rfl, rfl, rfl, by decide +kernel, rfl, by decide +kernel, by decide +kernel⟩
  refine FnD.mono (g := true) (k := 5) (FnD.of_fun F.F_want_number S fun cdv A outer s H E hr hg => ?_) (Nat.le_refl _)
  have tk := takes_of (X := cxOf (L2.CX prog w) prog w K mg base ["value"] "want_number" (defScope s_want_number) a.f_want_number cdv A outer s H E) rfl rfl rfl rfl
  have hp := passes_of (X := cxOf (L2.CX prog w) prog w K mg base ["value"] "want_number" (defScope s_want_number) a.f_want_number cdv A outer s H E) rfl
  exact (sns_cons (sns_if (snt_not (snt_val (sn_callG (n := 1) (π := [0]) (t_is_number F) (hr.mono (by decide)) hg tk rfl F.g_is_number F.F_is_number.kp (kb_is_number_1 F) repD_nil cdP (ca_pos (sna_cons (sn_var (i := 0)) sna_nil) rfl)))) (sns_one sns_bad) sns_nil)
    (sns_one (sns_ret (sn_callG (n := 1) (π := [0]) (t_ratio_of F) (hr.mono (by decide)) hg tk rfl F.g_ratio_of F.F_ratio_of.kp (kb_ratio_of_1 F) repD_nil cdP (ca_pos (sna_cons (sn_var (i := 0)) sna_nil) rfl)))))
/-! ### is_list -/
def d_is_list : DF := runB 1 (
    (sRet (dIsi aisi_list_tuple (dVar 0))))
theorem t_is_list {prog : Program} {w : World} {K : PySem.W.Frag} {mg : Str → Option Value} {base : Heap} {a : AD} (F : PF K mg a) : FnD prog w K mg base (PR K a) 1 true a.f_is_list a.fd_is_list ["value"] d_is_list := by
  have S : FnScope ["value"] ["value"] (defScope s_is_list) := ⟨rfl, rfl, rfl, by decide +kernel, rfl, by decide +kernel, by decide +kernel⟩
  refine FnD.mono (g := true) (k := 1) (FnD.of_fun F.F_is_list S fun cdv A outer s H E hr hg => ?_) (Nat.le_refl _)
  have tk := takes_of (X := cxOf (L2.CX prog w) prog w K mg base ["value"] "is_list" (defScope s_is_list) a.f_is_list cdv A outer s H E) rfl rfl rfl rfl
  have hp := passes_of (X := cxOf (L2.CX prog w) prog w K mg base ["value"] "is_list" (defScope s_is_list) a.f_is_list cdv A outer s H E) rfl
  exact (sns_one (sns_ret (sn_isiT rfl (clsAll F) (.ty _) (.ty _) (isi_list_tuple F) (sn_var (i := 0)) (pe_tn rfl F.b_list (by decide +kernel)) (pe_tn rfl F.b_tuple (by decide +kernel)) rfl F.b_isinstance)))
/-! ### Ratio.total -/
def d_Ratio_total : DF := runB 3 (
    (sSeq (sIf (tNotD (tB (dCall [0] [] (callP d_is_list) (bindE (dCons (dVar 1) dNil) fun xs => if xs.length = 1 then retE xs else badE)))) sBad sNil)
    (sRet (dCall [0] [] (callP d_total_of) (bindE (dCons (dFrz (dLc [2] (dItemsA (dVar 1)) (gSet 2) dYes (dCall [0] [] (callP d_want_number) (bindE (dCons (dVar 2) dNil) fun xs => if xs.length = 1 then retE xs else badE)))) dNil) fun xs => if xs.length = 1 then retE xs else badE)))))
theorem t_Ratio_total {prog : Program} {w : World} {K : PySem.W.Frag} {mg : Str → Option Value} {base : Heap} {a : AD} (F : PF K mg a) : FnD prog w K mg base (PR K a) 6 true a.f_Ratio_total a.fd_Ratio_total ["cls", "numbers"] d_Ratio_total := by
  have S : FnScope ["cls", "numbers", "number"] ["cls", "numbers"] (defScope s_Ratio_total) := ⟨rfl, rfl, rfl, by decide +kernel, rfl, by decide +kernel, by decide +kernel⟩
  refine FnD.mono (g := true) (k := 6) (FnD.of_fun F.F_Ratio_total S fun cdv A outer s H E hr hg => ?_) (Nat.le_refl _)
  have tk := takes_of (X := cxOf (L2.CX prog w) prog w K mg base ["cls", "numbers", "number"] "Ratio.total" (defScope s_Ratio_total) a.f_Ratio_total cdv A outer s H E) rfl rfl rfl rfl
  have hp := passes_of (X := cxOf (L2.CX prog w) prog w K mg base ["cls", "numbers", "number"] "Ratio.total" (defScope s_Ratio_total) a.f_Ratio_total cdv A outer s H E) rfl
  exact (sns_cons (sns_if (snt_not (snt_val (sn_callG (n := 1) (π := [0]) (t_is_list F) (hr.mono (by decide)) hg tk rfl F.g_is_list F.F_is_list.kp (kb_is_list_1 F) repD_nil cdP (ca_pos (sna_cons (sn_var (i := 1)) sna_nil) rfl)))) (sns_one sns_bad) sns_nil)
    (sns_one (sns_ret (sn_callG (n := 1) (π := [0]) (t_total_of F) (hr.mono (by decide)) hg tk rfl F.g_total_of F.F_total_of.kp (kb_total_of_1 F) repD_nil cdP (ca_pos (sna_cons (sn_frz (sn_lc (own := [("number", 2)]) rfl S.nd (sni_any rfl (sn_var (i := 1))) (blkOk_by (N := ["cls", "numbers", "number"]) (sc := defScope s_Ratio_total) (by decide +kernel)) (fun _ _ _ _ _ => (sngw_name (i := 2) S.nd rfl (by first | exact Or.inl rfl | exact Or.inr rfl))) (fun _ _ _ _ _ => snts_nil) (fun _ _ _ _ _ => (sn_callG (n := 1) (π := [0]) (t_want_number F) (hr.mono (by decide)) hg takes0 rfl F.g_want_number F.F_want_number.kp (kb_want_number_1 F) repD_nil cdP (ca_pos (sna_cons (sn_var (i := 2)) sna_nil) rfl))))) sna_nil) rfl)))))
/-! ### _law_draw -/
def d__law_draw : DF := runB 3 (
    (sSeq (sIf (tB (dBin (oGt bad2) (dBin oIx (dVar 0) (dC (.int 0))) (dC (.int 0)))) (sSeq (sAsg (bindE (dCons (dBin oIx (dVar 0) (dC (.int 0))) (dCons (dVar 1) dNil)) oDivmod) (gTupD 2 (gsCons (gSubD (dVar 0) (dC (.int 0))) (gsCons (gSet 2) gsNil))))
    (sRet (dVar 2))) sNil)
    (sSeq (sAsg (dBin (oMod bad2) (bindE (dCons (dBin (oAddI (oAddS (oAddL (oOwn 0 d_Ratio___add__ d_Ratio___radd__ bad2)))) (dBin (oMulI (oOwn 0 d_Ratio___mul__ d_Ratio___rmul__ bad2)) (dBin oIx (dVar 0) (dC (.int 1))) (dC (.int 48271))) (dC (.int 18617))) dNil) oInt) (dC (.int 2147483587))) (gSubD (dVar 0) (dC (.int 1))))
    (sRet (dBin (oMod bad2) (bindE (dCons (dBin (oDiv bad2) (dBin (oMod bad2) (bindE (dCons (dBin (oMulI (oOwn 0 d_Ratio___mul__ d_Ratio___rmul__ bad2)) (dBin oIx (dVar 0) (dC (.int 1))) (dBin oIx (dVar 0) (dC (.int 1)))) dNil) oInt) (dC (.int 2147483549))) (dC (.int 13))) dNil) oInt) (dVar 1))))))
theorem t__law_draw {prog : Program} {w : World} {K : PySem.W.Frag} {mg : Str → Option Value} {base : Heap} {a : AD} (F : PF K mg a) : FnD prog w K mg base (PR K a) 5 true a.f__law_draw a.fd__law_draw ["_law_pot_here", "_law_size"] d__law_draw := by
  have S : FnScope ["_law_pot_here", "_law_size", "_law_digit"] ["_law_pot_here", "_law_size"] (defScope s__law_draw) := ⟨rfl, rfl, rfl, by decide +kernel, rfl, by decide +kernel, by decide +kernel⟩
  refine FnD.mono (g := true) (k := 5) (FnD.of_fun F.F__law_draw S fun cdv A outer s H E hr hg => ?_) (Nat.le_refl _)
  have tk := takes_of (X := cxOf (L2.CX prog w) prog w K mg base ["_law_pot_here", "_law_size", "_law_digit"] "_law_draw" (defScope s__law_draw) a.f__law_draw cdv A outer s H E) rfl rfl rfl rfl
  have hp := passes_of (X := cxOf (L2.CX prog w) prog w K mg base ["_law_pot_here", "_law_size", "_law_digit"] "_law_draw" (defScope s__law_draw) a.f__law_draw cdv A outer s H E) rfl
  exact (sns_cons (sns_if (snt_cmp (op_gtS op_bad) (sn_ix rfl (sn_var (i := 0)) sn_int) sn_int) (sns_cons (sns_asg (sn_cb cs_divmod rfl F.b_divmod (by decide +kernel) (sna_cons (sn_ix rfl (sn_var (i := 0)) sn_int) (sna_cons (sn_var (i := 1)) sna_nil))) (sng_tup rfl rfl (sngs_cons (sng_sub (sn_var (i := 0)) sn_int) (sngs_cons (sng_name (i := 2) S.nd rfl (by first | exact Or.inl rfl | exact Or.inr rfl)) sngs_nil))))
    (sns_one (sns_ret (sn_var (i := 2))))) sns_nil)
    (sns_cons (sns_asg (sn_bin (op_modS op_bad) (sn_cbT cs_int rfl F.b_int (by decide +kernel) (sna_cons (sn_bin (op_addI (op_addS (op_addL (op_own (c := 0) rfl F.op_Ratio_add dec_add (t_Ratio___add__ F) (t_Ratio___radd__ F) (hr.mono (by decide)) (hr.mono (by decide)) hg hg tk (b_Ratio___add__ F) (b_Ratio___radd__ F) rfl rfl op_bad)))) (sn_bin (op_mulI (op_own (c := 0) rfl F.op_Ratio_mul dec_mul (t_Ratio___mul__ F) (t_Ratio___rmul__ F) (hr.mono (by decide)) (hr.mono (by decide)) hg hg tk (b_Ratio___mul__ F) (b_Ratio___rmul__ F) rfl rfl op_bad)) (sn_ix rfl (sn_var (i := 0)) sn_int) sn_int) sn_int) sna_nil)) sn_int) (sng_sub (sn_var (i := 0)) sn_int))
    (sns_one (sns_ret (sn_bin (op_modS op_bad) (sn_cbT cs_int rfl F.b_int (by decide +kernel) (sna_cons (sn_bin (op_divS op_bad) (sn_bin (op_modS op_bad) (sn_cbT cs_int rfl F.b_int (by decide +kernel) (sna_cons (sn_bin (op_mulI (op_own (c := 0) rfl F.op_Ratio_mul dec_mul (t_Ratio___mul__ F) (t_Ratio___rmul__ F) (hr.mono (by decide)) (hr.mono (by decide)) hg hg tk (b_Ratio___mul__ F) (b_Ratio___rmul__ F) rfl rfl op_bad)) (sn_ix rfl (sn_var (i := 0)) sn_int) (sn_ix rfl (sn_var (i := 0)) sn_int)) sna_nil)) sn_int) sn_int) sna_nil)) (sn_var (i := 1)))))))
/-! ### _law_whole -/
def d__law_whole : DF := runB 1 (
    (sRet (dIf (tB (dBin (oEqP false (oEqO 0 d_Ratio___eq__ bad2)) (dCall [0, 1] [] (callS d__law_draw) (bindE (dCons (dVar 0) (dCons (dC (.int 2)) dNil)) fun xs => if xs.length = 2 then retE xs else badE)) (dC (.int 0)))) (dBin (oSub (oOwn 0 d_Ratio___sub__ d_Ratio___rsub__ bad2)) (dCall [0, 1] [] (callS d__law_draw) (bindE (dCons (dVar 0) (dCons (dC (.int 25)) dNil)) fun xs => if xs.length = 2 then retE xs else badE)) (dC (.int 12))) (dBin (oSub (oOwn 0 d_Ratio___sub__ d_Ratio___rsub__ bad2)) (dCall [0, 1] [] (callS d__law_draw) (bindE (dCons (dVar 0) (dCons (dC (.int 1999999)) dNil)) fun xs => if xs.length = 2 then retE xs else badE)) (dC (.int 999999))))))
theorem t__law_whole {prog : Program} {w : World} {K : PySem.W.Frag} {mg : Str → Option Value} {base : Heap} {a : AD} (F : PF K mg a) : FnD prog w K mg base (PR K a) 6 true a.f__law_whole a.fd__law_whole ["_law_pot_here"] d__law_whole := by
  have S : FnScope ["_law_pot_here"] ["_law_pot_here"] (defScope s__law_whole) := ⟨rfl, rfl, rfl, by decide +kernel, rfl, by decide +kernel, by decide +kernel⟩
  refine FnD.mono (g := true) (k := 6) (FnD.of_fun F.F__law_whole S fun cdv A outer s H E hr hg => ?_) (Nat.le_refl _)
  have tk := takes_of (X := cxOf (L2.CX prog w) prog w K mg base ["_law_pot_here"] "_law_whole" (defScope s__law_whole) a.f__law_whole cdv A outer s H E) rfl rfl rfl rfl
  have hp := passes_of (X := cxOf (L2.CX prog w) prog w K mg base ["_law_pot_here"] "_law_whole" (defScope s__law_whole) a.f__law_whole cdv A outer s H E) rfl
  exact (sns_one (sns_ret (sn_if (snt_cmp (op_eqP (op_eqO (c := 0) rfl F.eq_Ratio (t_Ratio___eq__ F) (hr.mono (by decide)) hg tk (b_Ratio___eq__ F) rfl op_bad)) (sn_callG (n := 2) (π := [0, 1]) (t__law_draw F) (hr.mono (by decide)) hg tk rfl F.g__law_draw F.F__law_draw.kp (kb__law_draw_2 F) repD_nil cdS (ca_pos (sna_cons (sn_var (i := 0)) (sna_cons sn_int sna_nil)) rfl)) sn_int) (sn_bin (op_subS (op_own (c := 0) rfl F.op_Ratio_sub dec_sub (t_Ratio___sub__ F) (t_Ratio___rsub__ F) (hr.mono (by decide)) (hr.mono (by decide)) hg hg tk (b_Ratio___sub__ F) (b_Ratio___rsub__ F) rfl rfl op_bad)) (sn_callG (n := 2) (π := [0, 1]) (t__law_draw F) (hr.mono (by decide)) hg tk rfl F.g__law_draw F.F__law_draw.kp (kb__law_draw_2 F) repD_nil cdS (ca_pos (sna_cons (sn_var (i := 0)) (sna_cons sn_int sna_nil)) rfl)) sn_int) (sn_bin (op_subS (op_own (c := 0) rfl F.op_Ratio_sub dec_sub (t_Ratio___sub__ F) (t_Ratio___rsub__ F) (hr.mono (by decide)) (hr.mono (by decide)) hg hg tk (b_Ratio___sub__ F) (b_Ratio___rsub__ F) rfl rfl op_bad)) (sn_callG (n := 2) (π := [0, 1]) (t__law_draw F) (hr.mono (by decide)) hg tk rfl F.g__law_draw F.F__law_draw.kp (kb__law_draw_2 F) repD_nil cdS (ca_pos (sna_cons (sn_var (i := 0)) (sna_cons sn_int sna_nil)) rfl)) sn_int))))
/-! ### _law_pick -/
def d__law_pick : DF := runB 2 (
    (sRet (dBin oIx (dVar 1) (dCall [0, 1] [] (callS d__law_draw) (bindE (dCons (dVar 0) (dCons (bindE (dCons (dVar 1) dNil) oLen) dNil)) fun xs => if xs.length = 2 then retE xs else badE)))))
theorem t__law_pick {prog : Program} {w : World} {K : PySem.W.Frag} {mg : Str → Option Value} {base : Heap} {a : AD} (F : PF K mg a) : FnD prog w K mg base (PR K a) 6 true a.f__law_pick a.fd__law_pick ["_law_pot_here", "_law_some"] d__law_pick := by
  have S : FnScope ["_law_pot_here", "_law_some"] ["_law_pot_here", "_law_some"] (defScope s__law_pick) := ⟨rfl, rfl, rfl, by decide +kernel, rfl, by decide +kernel, by decide +kernel⟩
  refine FnD.mono (g := true) (k := 6) (FnD.of_fun F.F__law_pick S fun cdv A outer s H E hr hg => ?_) (Nat.le_refl _)
  have tk := takes_of (X := cxOf (L2.CX prog w) prog w K mg base ["_law_pot_here", "_law_some"] "_law_pick" (defScope s__law_pick) a.f__law_pick cdv A outer s H E) rfl rfl rfl rfl
  have hp := passes_of (X := cxOf (L2.CX prog w) prog w K mg base ["_law_pot_here", "_law_some"] "_law_pick" (defScope s__law_pick) a.f__law_pick cdv A outer s H E) rfl
  exact (sns_one (sns_ret (sn_ix rfl (sn_var (i := 1)) (sn_callG (n := 2) (π := [0, 1]) (t__law_draw F) (hr.mono (by decide)) hg tk rfl F.g__law_draw F.F__law_draw.kp (kb__law_draw_2 F) repD_nil cdS (ca_pos (sna_cons (sn_var (i := 0)) (sna_cons (sn_cb (cs_len rfl) rfl F.b_len (by decide +kernel) (sna_cons (sn_var (i := 1)) sna_nil)) sna_nil)) rfl)))))
/-! ### _law_total_right -/
def d__law_total_right : DF := runB 8 (
    (sSeq (sPar3 2 3 4 (dCons (dC (.int 0)) (dCons (dC (.int 1)) (dCons (bindE dNil newCell) dNil))))
    (sSeq (sFor (dRng1 (dCons (dCall [0, 1] [] (callS d__law_draw) (bindE (dCons (dVar 0) (dCons (dC (.int 5)) dNil)) fun xs => if xs.length = 2 then retE xs else badE)) dNil)) (gSet 5) (sIf (tB (dBin (oEqP false (oEqO 0 d_Ratio___eq__ bad2)) (dCall [0, 1] [] (callS d__law_draw) (bindE (dCons (dVar 0) (dCons (dC (.int 3)) dNil)) fun xs => if xs.length = 2 then retE xs else badE)) (dC (.int 0)))) (sSeq (sSet 6 (dCall [0] [] (callS d__law_whole) (bindE (dCons (dVar 0) dNil) fun xs => if xs.length = 1 then retE xs else badE)))
    (sSeq (sDrop (dBM oApp (dVar 4) (dCons (dVar 6) dNil)))
    (sSet 2 (dBin (oAddI (oAddS (oAddL (oOwn 0 d_Ratio___add__ d_Ratio___radd__ bad2)))) (dVar 2) (dBin (oMulI (oOwn 0 d_Ratio___mul__ d_Ratio___rmul__ bad2)) (dVar 6) (dVar 3)))))) (sSeq (sSet 7 (dCall [0, 1] [] (callS d__law_pick) (bindE (dCons (dVar 0) (dCons (dVar 1) dNil)) fun xs => if xs.length = 2 then retE xs else badE)))
    (sSeq (sDrop (dBM oApp (dVar 4) (dCons (dCall [0, 1] [.pv (.int 1)] (mkIns 0 2 d_Ratio___init__) (bindE (dCons (dBin oIx (dVar 7) (dC (.int 0))) (dCons (dBin oIx (dVar 7) (dC (.int 1))) dNil)) fun xs => if xs.length = 2 then retE xs else badE)) dNil)))
    (sPar 2 3 (dCons (dBin (oAddI (oAddS (oAddL (oOwn 0 d_Ratio___add__ d_Ratio___radd__ bad2)))) (dBin (oMulI (oOwn 0 d_Ratio___mul__ d_Ratio___rmul__ bad2)) (dVar 2) (dBin oIx (dVar 7) (dC (.int 1)))) (dBin (oMulI (oOwn 0 d_Ratio___mul__ d_Ratio___rmul__ bad2)) (dBin oIx (dVar 7) (dC (.int 0))) (dVar 3))) (dCons (dBin (oMulI (oOwn 0 d_Ratio___mul__ d_Ratio___rmul__ bad2)) (dVar 3) (dBin oIx (dVar 7) (dC (.int 1)))) dNil)))))))
    (sRet (dAndV (dCall [0, 1, 2] [] (callP d__law_is) (bindE (dCons (dCall [0, 1] [] (fun xs => (callP d_Ratio_total) xs) (bindE (bindE (dCons (dFrz (dVar 4)) dNil) fun xs => if xs.length = 1 then retE xs else badE) fun xs => retE (.pv .any :: xs))) (dCons (dVar 2) (dCons (dVar 3) dNil))) fun xs => if xs.length = 3 then retE xs else badE)) (dCall [0, 1, 2] [] (callP d__law_is) (bindE (dCons (dCall [0, 1] [] (fun xs => (callP d_Ratio_total) xs) (bindE (bindE (dCons (bindE (dCons (dFrz (dVar 4)) dNil) oTuple) dNil) fun xs => if xs.length = (["numbers"] : List Str).length then retE xs else badE) fun xs => retE (.pv .any :: xs))) (dCons (dVar 2) (dCons (dVar 3) dNil))) fun xs => if xs.length = 3 then retE xs else badE)))))))
theorem t__law_total_right {prog : Program} {w : World} {K : PySem.W.Frag} {mg : Str → Option Value} {base : Heap} {a : AD} (F : PF K mg a) : FnD prog w K mg base (PR K a) 8 true a.f__law_total_right a.fd__law_total_right ["_law_pot_here", "_law_pairs"] d__law_total_right := by
  have S : FnScope ["_law_pot_here", "_law_pairs", "_law_top_here", "_law_bottom", "_law_told", "_law_turn", "_law_whole_here", "_law_one"] ["_law_pot_here", "_law_pairs"] (defScope s__law_total_right) := ⟨rfl, rfl, rfl, by decide +kernel, rfl, by decide +kernel, by decide +kernel⟩
  refine FnD.mono (g := true) (k := 8) (FnD.of_fun F.F__law_total_right S fun cdv A outer s H E hr hg => ?_) (Nat.le_refl _)
  have tk := takes_of (X := cxOf (L2.CX prog w) prog w K mg base ["_law_pot_here", "_law_pairs", "_law_top_here", "_law_bottom", "_law_told", "_law_turn", "_law_whole_here", "_law_one"] "_law_total_right" (defScope s__law_total_right) a.f__law_total_right cdv A outer s H E) rfl rfl rfl rfl
  have hp := passes_of (X := cxOf (L2.CX prog w) prog w K mg base ["_law_pot_here", "_law_pairs", "_law_top_here", "_law_bottom", "_law_told", "_law_turn", "_law_whole_here", "_law_one"] "_law_total_right" (defScope s__law_total_right) a.f__law_total_right cdv A outer s H E) rfl
  exact (sns_cons (sns_par3 (i := 2) (j := 3) (l := 4) rfl S.nd rfl rfl rfl (by decide) (by decide) (by decide) rfl rfl rfl (sna_cons sn_int (sna_cons sn_int (sna_cons (sn_cell sna_nil) sna_nil))) (by rfl))
    (sns_cons (sns_for hp rfl (sni_range1 rfl F.b_range (sna_cons (sn_callG (n := 2) (π := [0, 1]) (t__law_draw F) (hr.mono (by decide)) hg tk rfl F.g__law_draw F.F__law_draw.kp (kb__law_draw_2 F) repD_nil cdS (ca_pos (sna_cons (sn_var (i := 0)) (sna_cons sn_int sna_nil)) rfl)) sna_nil)) (sng_name (i := 5) S.nd rfl (by first | exact Or.inl rfl | exact Or.inr rfl)) (sns_one (sns_if (snt_cmp (op_eqP (op_eqO (c := 0) rfl F.eq_Ratio (t_Ratio___eq__ F) (hr.mono (by decide)) hg tk (b_Ratio___eq__ F) rfl op_bad)) (sn_callG (n := 2) (π := [0, 1]) (t__law_draw F) (hr.mono (by decide)) hg tk rfl F.g__law_draw F.F__law_draw.kp (kb__law_draw_2 F) repD_nil cdS (ca_pos (sna_cons (sn_var (i := 0)) (sna_cons sn_int sna_nil)) rfl)) sn_int) (sns_cons (sns_set (i := 6) S.nd rfl (by first | exact Or.inl rfl | exact Or.inr rfl) (sn_callG (n := 1) (π := [0]) (t__law_whole F) (hr.mono (by decide)) hg tk rfl F.g__law_whole F.F__law_whole.kp (kb__law_whole_1 F) repD_nil cdS (ca_pos (sna_cons (sn_var (i := 0)) sna_nil) rfl)))
    (sns_cons (sns_expr (sn_append (sn_var (i := 4)) (sna_cons (sn_var (i := 6)) sna_nil)))
    (sns_one (sns_set (i := 2) S.nd rfl (by first | exact Or.inl rfl | exact Or.inr rfl) (sn_bin (op_addI (op_addS (op_addL (op_own (c := 0) rfl F.op_Ratio_add dec_add (t_Ratio___add__ F) (t_Ratio___radd__ F) (hr.mono (by decide)) (hr.mono (by decide)) hg hg tk (b_Ratio___add__ F) (b_Ratio___radd__ F) rfl rfl op_bad)))) (sn_var (i := 2)) (sn_bin (op_mulI (op_own (c := 0) rfl F.op_Ratio_mul dec_mul (t_Ratio___mul__ F) (t_Ratio___rmul__ F) (hr.mono (by decide)) (hr.mono (by decide)) hg hg tk (b_Ratio___mul__ F) (b_Ratio___rmul__ F) rfl rfl op_bad)) (sn_var (i := 6)) (sn_var (i := 3)))))))) (sns_cons (sns_set (i := 7) S.nd rfl (by first | exact Or.inl rfl | exact Or.inr rfl) (sn_callG (n := 2) (π := [0, 1]) (t__law_pick F) (hr.mono (by decide)) hg tk rfl F.g__law_pick F.F__law_pick.kp (kb__law_pick_2 F) repD_nil cdS (ca_pos (sna_cons (sn_var (i := 0)) (sna_cons (sn_var (i := 1)) sna_nil)) rfl)))
    (sns_cons (sns_expr (sn_append (sn_var (i := 4)) (sna_cons (sn_makeG (c := 0) (n := 2) (nf := 2) (π := [1, 2]) (t_Ratio___init__ F) rfl rfl F.mk_Ratio (hr.mono (by decide)) hg tk rfl F.gm_Ratio (kb_Ratio___init___3 F) (repD_int repD_nil) (by decide) (ca_pos (sna_cons (sn_ix rfl (sn_var (i := 7)) sn_int) (sna_cons (sn_ix rfl (sn_var (i := 7)) sn_int) sna_nil)) rfl)) sna_nil)))
    (sns_one (sns_par (i := 2) (j := 3) rfl S.nd rfl rfl (by decide) rfl rfl (sna_cons (sn_bin (op_addI (op_addS (op_addL (op_own (c := 0) rfl F.op_Ratio_add dec_add (t_Ratio___add__ F) (t_Ratio___radd__ F) (hr.mono (by decide)) (hr.mono (by decide)) hg hg tk (b_Ratio___add__ F) (b_Ratio___radd__ F) rfl rfl op_bad)))) (sn_bin (op_mulI (op_own (c := 0) rfl F.op_Ratio_mul dec_mul (t_Ratio___mul__ F) (t_Ratio___rmul__ F) (hr.mono (by decide)) (hr.mono (by decide)) hg hg tk (b_Ratio___mul__ F) (b_Ratio___rmul__ F) rfl rfl op_bad)) (sn_var (i := 2)) (sn_ix rfl (sn_var (i := 7)) sn_int)) (sn_bin (op_mulI (op_own (c := 0) rfl F.op_Ratio_mul dec_mul (t_Ratio___mul__ F) (t_Ratio___rmul__ F) (hr.mono (by decide)) (hr.mono (by decide)) hg hg tk (b_Ratio___mul__ F) (b_Ratio___rmul__ F) rfl rfl op_bad)) (sn_ix rfl (sn_var (i := 7)) sn_int) (sn_var (i := 3)))) (sna_cons (sn_bin (op_mulI (op_own (c := 0) rfl F.op_Ratio_mul dec_mul (t_Ratio___mul__ F) (t_Ratio___rmul__ F) (hr.mono (by decide)) (hr.mono (by decide)) hg hg tk (b_Ratio___mul__ F) (b_Ratio___rmul__ F) rfl rfl op_bad)) (sn_var (i := 3)) (sn_ix rfl (sn_var (i := 7)) sn_int)) sna_nil)) (by rfl))))))))
    (sns_one (sns_ret (sn_and (sn_callG (n := 3) (π := [0, 1, 2]) (t__law_is F) (hr.mono (by decide)) hg tk rfl F.g__law_is F.F__law_is.kp (kb__law_is_3 F) repD_nil cdP (ca_pos (sna_cons (sn_cmeth (n := 1) (π := [0, 1]) rfl F.gm_Ratio F.cr_Ratio F.cm_Ratio_total (t_Ratio_total F) (hr.mono (by decide)) hg tk (kb_Ratio_total_2 F) repD_nil cdP (ca_pos (sna_cons (sn_frz (sn_var (i := 4))) sna_nil) rfl)) (sna_cons (sn_var (i := 2)) (sna_cons (sn_var (i := 3)) sna_nil))) rfl)) (sn_one (sn_callG (n := 3) (π := [0, 1, 2]) (t__law_is F) (hr.mono (by decide)) hg tk rfl F.g__law_is F.F__law_is.kp (kb__law_is_3 F) repD_nil cdP (ca_pos (sna_cons (sn_cmeth (n := 0) (π := [0, 1]) rfl F.gm_Ratio F.cr_Ratio F.cm_Ratio_total (t_Ratio_total F) (hr.mono (by decide)) hg tk (kb_Ratio_total_1_numbers F) repD_nil cdP (ca_kw (ks := ["numbers"]) (snk_cons (sn_cbT (cs_tuple rfl) rfl F.b_tuple (by decide +kernel) (sna_cons (sn_frz (sn_var (i := 4))) sna_nil)) snk_nil))) (sna_cons (sn_var (i := 2)) (sna_cons (sn_var (i := 3)) sna_nil))) rfl))))))))
/-! ### Ratio.is_at_most -/
def d_Ratio_is_at_most : DF := runB 4 (
    (sSeq (sAsg (dCall [0] [] (callP d_told_pair) (bindE (dCons (dVar 1) dNil) fun xs => if xs.length = 1 then retE xs else badE)) (gTupD 2 (gsCons (gSet 2) (gsCons (gSet 3) gsNil))))
    (sRet (dBin (oLe bad2) (dBin (oMulI (oOwn 0 d_Ratio___mul__ d_Ratio___rmul__ bad2)) (dFld 0 0 (dVar 0)) (dVar 3)) (dBin (oMulI (oOwn 0 d_Ratio___mul__ d_Ratio___rmul__ bad2)) (dVar 2) (dFld 0 1 (dVar 0)))))))
theorem t_Ratio_is_at_most {prog : Program} {w : World} {K : PySem.W.Frag} {mg : Str → Option Value} {base : Heap} {a : AD} (F : PF K mg a) : FnD prog w K mg base (PR K a) 5 true a.f_Ratio_is_at_most a.fd_Ratio_is_at_most ["self", "other"] d_Ratio_is_at_most := by
  have S : FnScope ["self", "other", "top", "bottom"] ["self", "other"] (defScope s_Ratio_is_at_most) := ⟨rfl, rfl, rfl, by decide +kernel, rfl, by decide +kernel, by decide +kernel⟩
  refine FnD.mono (g := true) (k := 5) (FnD.of_fun F.F_Ratio_is_at_most S fun cdv A outer s H E hr hg => ?_) (Nat.le_refl _)
  have tk := takes_of (X := cxOf (L2.CX prog w) prog w K mg base ["self", "other", "top", "bottom"] "Ratio.is_at_most" (defScope s_Ratio_is_at_most) a.f_Ratio_is_at_most cdv A outer s H E) rfl rfl rfl rfl
  have hp := passes_of (X := cxOf (L2.CX prog w) prog w K mg base ["self", "other", "top", "bottom"] "Ratio.is_at_most" (defScope s_Ratio_is_at_most) a.f_Ratio_is_at_most cdv A outer s H E) rfl
  exact (sns_cons (sns_asg (sn_callG (n := 1) (π := [0]) (t_told_pair F) (hr.mono (by decide)) hg tk rfl F.g_told_pair F.F_told_pair.kp (kb_told_pair_1 F) repD_nil cdP (ca_pos (sna_cons (sn_var (i := 1)) sna_nil) rfl)) (sng_tup rfl rfl (sngs_cons (sng_name (i := 2) S.nd rfl (by first | exact Or.inl rfl | exact Or.inr rfl)) (sngs_cons (sng_name (i := 3) S.nd rfl (by first | exact Or.inl rfl | exact Or.inr rfl)) sngs_nil))))
    (sns_one (sns_ret (sn_cmp (op_leS op_bad) (sn_bin (op_mulI (op_own (c := 0) rfl F.op_Ratio_mul dec_mul (t_Ratio___mul__ F) (t_Ratio___rmul__ F) (hr.mono (by decide)) (hr.mono (by decide)) hg hg tk (b_Ratio___mul__ F) (b_Ratio___rmul__ F) rfl rfl op_bad)) (sn_fld (c := 0) (j := 0) (sn_var (i := 0)) rfl rfl F.cls_Ratio F.na_Ratio_own_top nd_Ratio rfl) (sn_var (i := 3))) (sn_bin (op_mulI (op_own (c := 0) rfl F.op_Ratio_mul dec_mul (t_Ratio___mul__ F) (t_Ratio___rmul__ F) (hr.mono (by decide)) (hr.mono (by decide)) hg hg tk (b_Ratio___mul__ F) (b_Ratio___rmul__ F) rfl rfl op_bad)) (sn_var (i := 2)) (sn_fld (c := 0) (j := 1) (sn_var (i := 0)) rfl rfl F.cls_Ratio F.na_Ratio_own_bottom nd_Ratio rfl))))))
/-! ### Ratio.is_below -/
def d_Ratio_is_below : DF := runB 4 (
    (sSeq (sAsg (dCall [0] [] (callP d_told_pair) (bindE (dCons (dVar 1) dNil) fun xs => if xs.length = 1 then retE xs else badE)) (gTupD 2 (gsCons (gSet 2) (gsCons (gSet 3) gsNil))))
    (sRet (dBin (oLt bad2) (dBin (oMulI (oOwn 0 d_Ratio___mul__ d_Ratio___rmul__ bad2)) (dFld 0 0 (dVar 0)) (dVar 3)) (dBin (oMulI (oOwn 0 d_Ratio___mul__ d_Ratio___rmul__ bad2)) (dVar 2) (dFld 0 1 (dVar 0)))))))
theorem t_Ratio_is_below {prog : Program} {w : World} {K : PySem.W.Frag} {mg : Str → Option Value} {base : Heap} {a : AD} (F : PF K mg a) : FnD prog w K mg base (PR K a) 5 true a.f_Ratio_is_below a.fd_Ratio_is_below ["self", "other"] d_Ratio_is_below := by
  have S : FnScope ["self", "other", "top", "bottom"] ["self", "other"] (defScope s_Ratio_is_below) := ⟨rfl, rfl, rfl, by decide +kernel, rfl, by decide +kernel, by decide +kernel⟩
  refine FnD.mono (g := true) (k := 5) (FnD.of_fun F.F_Ratio_is_below S fun cdv A outer s H E hr hg => ?_) (Nat.le_refl _)
  have tk := takes_of (X := cxOf (L2.CX prog w) prog w K mg base ["self", "other", "top", "bottom"] "Ratio.is_below" (defScope s_Ratio_is_below) a.f_Ratio_is_below cdv A outer s H E) rfl rfl rfl rfl
  have hp := passes_of (X := cxOf (L2.CX prog w) prog w K mg base ["self", "other", "top", "bottom"] "Ratio.is_below" (defScope s_Ratio_is_below) a.f_Ratio_is_below cdv A outer s H E) rfl
  exact (sns_cons (sns_asg (sn_callG (n := 1) (π := [0]) (t_told_pair F) (hr.mono (by decide)) hg tk rfl F.g_told_pair F.F_told_pair.kp (kb_told_pair_1 F) repD_nil cdP (ca_pos (sna_cons (sn_var (i := 1)) sna_nil) rfl)) (sng_tup rfl rfl (sngs_cons (sng_name (i := 2) S.nd rfl (by first | exact Or.inl rfl | exact Or.inr rfl)) (sngs_cons (sng_name (i := 3) S.nd rfl (by first | exact Or.inl rfl | exact Or.inr rfl)) sngs_nil))))
    (sns_one (sns_ret (sn_cmp (op_ltS op_bad) (sn_bin (op_mulI (op_own (c := 0) rfl F.op_Ratio_mul dec_mul (t_Ratio___mul__ F) (t_Ratio___rmul__ F) (hr.mono (by decide)) (hr.mono (by decide)) hg hg tk (b_Ratio___mul__ F) (b_Ratio___rmul__ F) rfl rfl op_bad)) (sn_fld (c := 0) (j := 0) (sn_var (i := 0)) rfl rfl F.cls_Ratio F.na_Ratio_own_top nd_Ratio rfl) (sn_var (i := 3))) (sn_bin (op_mulI (op_own (c := 0) rfl F.op_Ratio_mul dec_mul (t_Ratio___mul__ F) (t_Ratio___rmul__ F) (hr.mono (by decide)) (hr.mono (by decide)) hg hg tk (b_Ratio___mul__ F) (b_Ratio___rmul__ F) rfl rfl op_bad)) (sn_var (i := 2)) (sn_fld (c := 0) (j := 1) (sn_var (i := 0)) rfl rfl F.cls_Ratio F.na_Ratio_own_bottom nd_Ratio rfl))))))
/-! ### Ratio.over -/
def d_Ratio_over : DF := runB 4 (
    (sSeq (sAsg (dCall [0] [] (callP d_told_pair) (bindE (dCons (dVar 1) dNil) fun xs => if xs.length = 1 then retE xs else badE)) (gTupD 2 (gsCons (gSet 2) (gsCons (gSet 3) gsNil))))
    (sSeq (sIf (tB (dBin (oEqP false (oEqO 0 d_Ratio___eq__ bad2)) (dVar 2) (dC (.int 0)))) sBad sNil)
    (sRet (dCall [0, 1] [.pv (.int 1)] (mkIns 0 2 d_Ratio___init__) (bindE (dCons (dBin (oMulI (oOwn 0 d_Ratio___mul__ d_Ratio___rmul__ bad2)) (dFld 0 0 (dVar 0)) (dVar 3)) (dCons (dBin (oMulI (oOwn 0 d_Ratio___mul__ d_Ratio___rmul__ bad2)) (dFld 0 1 (dVar 0)) (dVar 2)) dNil)) fun xs => if xs.length = 2 then retE xs else badE))))))
theorem t_Ratio_over {prog : Program} {w : World} {K : PySem.W.Frag} {mg : Str → Option Value} {base : Heap} {a : AD} (F : PF K mg a) : FnD prog w K mg base (PR K a) 5 true a.f_Ratio_over a.fd_Ratio_over ["self", "other"] d_Ratio_over := by
  have S : FnScope ["self", "other", "top", "bottom"] ["self", "other"] (defScope s_Ratio_over) := ⟨rfl, rfl, rfl, by decide +kernel, rfl, by decide +kernel, by decide +kernel⟩
  refine FnD.mono (g := true) (k := 5) (FnD.of_fun F.F_Ratio_over S fun cdv A outer s H E hr hg => ?_) (Nat.le_refl _)
  have tk := takes_of (X := cxOf (L2.CX prog w) prog w K mg base ["self", "other", "top", "bottom"] "Ratio.over" (defScope s_Ratio_over) a.f_Ratio_over cdv A outer s H E) rfl rfl rfl rfl
  have hp := passes_of (X := cxOf (L2.CX prog w) prog w K mg base ["self", "other", "top", "bottom"] "Ratio.over" (defScope s_Ratio_over) a.f_Ratio_over cdv A outer s H E) rfl
  exact (sns_cons (sns_asg (sn_callG (n := 1) (π := [0]) (t_told_pair F) (hr.mono (by decide)) hg tk rfl F.g_told_pair F.F_told_pair.kp (kb_told_pair_1 F) repD_nil cdP (ca_pos (sna_cons (sn_var (i := 1)) sna_nil) rfl)) (sng_tup rfl rfl (sngs_cons (sng_name (i := 2) S.nd rfl (by first | exact Or.inl rfl | exact Or.inr rfl)) (sngs_cons (sng_name (i := 3) S.nd rfl (by first | exact Or.inl rfl | exact Or.inr rfl)) sngs_nil))))
    (sns_cons (sns_if (snt_cmp (op_eqP (op_eqO (c := 0) rfl F.eq_Ratio (t_Ratio___eq__ F) (hr.mono (by decide)) hg tk (b_Ratio___eq__ F) rfl op_bad)) (sn_var (i := 2)) sn_int) (sns_one sns_bad) sns_nil)
    (sns_one (sns_ret (sn_makeG (c := 0) (n := 2) (nf := 2) (π := [1, 2]) (t_Ratio___init__ F) rfl rfl F.mk_Ratio (hr.mono (by decide)) hg tk rfl F.gm_Ratio (kb_Ratio___init___3 F) (repD_int repD_nil) (by decide) (ca_pos (sna_cons (sn_bin (op_mulI (op_own (c := 0) rfl F.op_Ratio_mul dec_mul (t_Ratio___mul__ F) (t_Ratio___rmul__ F) (hr.mono (by decide)) (hr.mono (by decide)) hg hg tk (b_Ratio___mul__ F) (b_Ratio___rmul__ F) rfl rfl op_bad)) (sn_fld (c := 0) (j := 0) (sn_var (i := 0)) rfl rfl F.cls_Ratio F.na_Ratio_own_top nd_Ratio rfl) (sn_var (i := 3))) (sna_cons (sn_bin (op_mulI (op_own (c := 0) rfl F.op_Ratio_mul dec_mul (t_Ratio___mul__ F) (t_Ratio___rmul__ F) (hr.mono (by decide)) (hr.mono (by decide)) hg hg tk (b_Ratio___mul__ F) (b_Ratio___rmul__ F) rfl rfl op_bad)) (sn_fld (c := 0) (j := 1) (sn_var (i := 0)) rfl rfl F.cls_Ratio F.na_Ratio_own_bottom nd_Ratio rfl) (sn_var (i := 2))) sna_nil)) rfl))))))
/-! ### _law_whole_right -/
def d__law_whole_right : DF := runB 6 (
    (sSeq (sAsg (bindE (dCons (dCall [0, 1] [.pv (.int 1)] (mkIns 0 2 d_Ratio___init__) (bindE (dCons (dBin oIx (dVar 0) (dC (.int 0))) (dCons (dBin oIx (dVar 0) (dC (.int 1))) dNil)) fun xs => if xs.length = 2 then retE xs else badE)) (dCons (dVar 0) dNil)) mkTup) (gTupD 2 (gsCons (gSet 2) (gsCons (gTupD 2 (gsCons (gSet 3) (gsCons (gSet 4) gsNil))) gsNil))))
    (sSeq (sIf (tOrD (tNotD (tB (dCall [0, 1, 2] [] (callP d__law_is) (bindE (dCons (dBin (oAddI (oAddS (oAddL (oOwn 0 d_Ratio___add__ d_Ratio___radd__ bad2)))) (dVar 2) (dVar 1)) (dCons (dBin (oAddI (oAddS (oAddL (oOwn 0 d_Ratio___add__ d_Ratio___radd__ bad2)))) (dVar 3) (dBin (oMulI (oOwn 0 d_Ratio___mul__ d_Ratio___rmul__ bad2)) (dVar 1) (dVar 4))) (dCons (dVar 4) dNil))) fun xs => if xs.length = 3 then retE xs else badE)))) (tOrD (tNotD (tB (dCall [0, 1, 2] [] (callP d__law_is) (bindE (dCons (dBin (oAddI (oAddS (oAddL (oOwn 0 d_Ratio___add__ d_Ratio___radd__ bad2)))) (dVar 1) (dVar 2)) (dCons (dBin (oAddI (oAddS (oAddL (oOwn 0 d_Ratio___add__ d_Ratio___radd__ bad2)))) (dVar 3) (dBin (oMulI (oOwn 0 d_Ratio___mul__ d_Ratio___rmul__ bad2)) (dVar 1) (dVar 4))) (dCons (dVar 4) dNil))) fun xs => if xs.length = 3 then retE xs else badE)))) (tNotD (tB (dCall [0, 1, 2] [] (callP d__law_is) (bindE (dCons (dBin (oSub (oOwn 0 d_Ratio___sub__ d_Ratio___rsub__ bad2)) (dVar 1) (dVar 2)) (dCons (dBin (oSub (oOwn 0 d_Ratio___sub__ d_Ratio___rsub__ bad2)) (dBin (oMulI (oOwn 0 d_Ratio___mul__ d_Ratio___rmul__ bad2)) (dVar 1) (dVar 4)) (dVar 3)) (dCons (dVar 4) dNil))) fun xs => if xs.length = 3 then retE xs else badE)))))) (sRet (dC (.bl false))) sNil)
    (sSeq (sIf (tOrD (tNotD (tB (dCall [0, 1, 2] [] (callP d__law_is) (bindE (dCons (dBin (oSub (oOwn 0 d_Ratio___sub__ d_Ratio___rsub__ bad2)) (dVar 2) (dVar 1)) (dCons (dBin (oSub (oOwn 0 d_Ratio___sub__ d_Ratio___rsub__ bad2)) (dVar 3) (dBin (oMulI (oOwn 0 d_Ratio___mul__ d_Ratio___rmul__ bad2)) (dVar 1) (dVar 4))) (dCons (dVar 4) dNil))) fun xs => if xs.length = 3 then retE xs else badE)))) (tOrD (tNotD (tB (dCall [0, 1, 2] [] (callP d__law_is) (bindE (dCons (dBin (oMulI (oOwn 0 d_Ratio___mul__ d_Ratio___rmul__ bad2)) (dVar 1) (dVar 2)) (dCons (dBin (oMulI (oOwn 0 d_Ratio___mul__ d_Ratio___rmul__ bad2)) (dVar 1) (dVar 3)) (dCons (dVar 4) dNil))) fun xs => if xs.length = 3 then retE xs else badE)))) (tNotD (tB (dCall [0, 1, 2] [] (callP d__law_is) (bindE (dCons (dBin (oMulI (oOwn 0 d_Ratio___mul__ d_Ratio___rmul__ bad2)) (dVar 2) (dVar 1)) (dCons (dBin (oMulI (oOwn 0 d_Ratio___mul__ d_Ratio___rmul__ bad2)) (dVar 1) (dVar 3)) (dCons (dVar 4) dNil))) fun xs => if xs.length = 3 then retE xs else badE)))))) (sRet (dC (.bl false))) sNil)
    (sSeq (sIf (tAndD (tB (dBin (oEqP true (oNeO 0 d_Ratio___eq__ bad2)) (dVar 1) (dC (.int 0)))) (tNotD (tB (dCall [0, 1, 2] [] (callP d__law_is) (bindE (dCons (dMethG 0 [0, 1] (callP d_Ratio_over) [] (dVar 2) (bindE (dCons (dVar 1) dNil) fun xs => if xs.length = 1 then retE xs else badE)) (dCons (dVar 3) (dCons (dBin (oMulI (oOwn 0 d_Ratio___mul__ d_Ratio___rmul__ bad2)) (dVar 4) (dVar 1)) dNil))) fun xs => if xs.length = 3 then retE xs else badE))))) (sRet (dC (.bl false))) sNil)
    (sSeq (sIf (tOrD (tNotD (tB (dCall [0, 1, 2] [] (callP d__law_is) (bindE (dCons (dCall [0, 1] [.pv (.int 1)] (mkIns 0 2 d_Ratio___init__) (bindE (dCons (dVar 1) dNil) fun xs => if xs.length = 1 then retE xs else badE)) (dCons (dVar 1) (dCons (dC (.int 1)) dNil))) fun xs => if xs.length = 3 then retE xs else badE)))) (tB (dBin (oIsB true bad2) (dBin (oEqP false (oEqO 0 d_Ratio___eq__ bad2)) (dVar 2) (dVar 1)) (dC (.bl false))))) (sRet (dC (.bl false))) sNil)
    (sSeq (sSet 5 (dBin (oMulI (oOwn 0 d_Ratio___mul__ d_Ratio___rmul__ bad2)) (dBin (oSub (oOwn 0 d_Ratio___sub__ d_Ratio___rsub__ bad2)) (dVar 3) (dBin (oMulI (oOwn 0 d_Ratio___mul__ d_Ratio___rmul__ bad2)) (dVar 1) (dVar 4))) (dVar 4)))
    (sRet (dBin (oEqP false (oEqO 0 d_Ratio___eq__ bad2)) (bindE (dCons (bindE (dCons (dMethG 0 [0, 1] (callP d_Ratio_is_below) [] (dVar 2) (bindE (dCons (dVar 1) dNil) fun xs => if xs.length = 1 then retE xs else badE)) (dCons (dMethG 0 [0, 1] (callP d_Ratio_is_at_most) [] (dVar 2) (bindE (dCons (dVar 1) dNil) fun xs => if xs.length = 1 then retE xs else badE)) dNil)) mkLst) dNil) (oOwn1 0 d_Ratio___repr__ (oReprL badL))) (bindE (dCons (bindE (dCons (dBin (oLt bad2) (dVar 5) (dC (.int 0))) (dCons (dBin (oLe bad2) (dVar 5) (dC (.int 0))) dNil)) mkLst) dNil) (oOwn1 0 d_Ratio___repr__ (oReprL badL))))))))))))
theorem t__law_whole_right {prog : Program} {w : World} {K : PySem.W.Frag} {mg : Str → Option Value} {base : Heap} {a : AD} (F : PF K mg a) : FnD prog w K mg base (PR K a) 8 true a.f__law_whole_right a.fd__law_whole_right ["_law_one", "_law_whole_here"] d__law_whole_right := by
  have S : FnScope ["_law_one", "_law_whole_here", "_law_near", "_law_a", "_law_b", "_law_below"] ["_law_one", "_law_whole_here"] (defScope s__law_whole_right) := ⟨rfl, rfl, rfl, by decide +kernel, rfl, by decide +kernel, by decide +kernel⟩
  refine FnD.mono (g := true) (k := 8) (FnD.of_fun F.F__law_whole_right S fun cdv A outer s H E hr hg => ?_) (Nat.le_refl _)
  have tk := takes_of (X := cxOf (L2.CX prog w) prog w K mg base ["_law_one", "_law_whole_here", "_law_near", "_law_a", "_law_b", "_law_below"] "_law_whole_right" (defScope s__law_whole_right) a.f__law_whole_right cdv A outer s H E) rfl rfl rfl rfl
  have hp := passes_of (X := cxOf (L2.CX prog w) prog w K mg base ["_law_one", "_law_whole_here", "_law_near", "_law_a", "_law_b", "_law_below"] "_law_whole_right" (defScope s__law_whole_right) a.f__law_whole_right cdv A outer s H E) rfl
  exact (sns_cons (sns_asg (sn_tup (sna_cons (sn_makeG (c := 0) (n := 2) (nf := 2) (π := [1, 2]) (t_Ratio___init__ F) rfl rfl F.mk_Ratio (hr.mono (by decide)) hg tk rfl F.gm_Ratio (kb_Ratio___init___3 F) (repD_int repD_nil) (by decide) (ca_pos (sna_cons (sn_ix rfl (sn_var (i := 0)) sn_int) (sna_cons (sn_ix rfl (sn_var (i := 0)) sn_int) sna_nil)) rfl)) (sna_cons (sn_var (i := 0)) sna_nil))) (sng_tup rfl rfl (sngs_cons (sng_name (i := 2) S.nd rfl (by first | exact Or.inl rfl | exact Or.inr rfl)) (sngs_cons (sng_tup rfl rfl (sngs_cons (sng_name (i := 3) S.nd rfl (by first | exact Or.inl rfl | exact Or.inr rfl)) (sngs_cons (sng_name (i := 4) S.nd rfl (by first | exact Or.inl rfl | exact Or.inr rfl)) sngs_nil))) sngs_nil))))
    (sns_cons (sns_if (SnW.t (snw_or (snt_not (snt_val (sn_callG (n := 3) (π := [0, 1, 2]) (t__law_is F) (hr.mono (by decide)) hg tk rfl F.g__law_is F.F__law_is.kp (kb__law_is_3 F) repD_nil cdP (ca_pos (sna_cons (sn_bin (op_addI (op_addS (op_addL (op_own (c := 0) rfl F.op_Ratio_add dec_add (t_Ratio___add__ F) (t_Ratio___radd__ F) (hr.mono (by decide)) (hr.mono (by decide)) hg hg tk (b_Ratio___add__ F) (b_Ratio___radd__ F) rfl rfl op_bad)))) (sn_var (i := 2)) (sn_var (i := 1))) (sna_cons (sn_bin (op_addI (op_addS (op_addL (op_own (c := 0) rfl F.op_Ratio_add dec_add (t_Ratio___add__ F) (t_Ratio___radd__ F) (hr.mono (by decide)) (hr.mono (by decide)) hg hg tk (b_Ratio___add__ F) (b_Ratio___radd__ F) rfl rfl op_bad)))) (sn_var (i := 3)) (sn_bin (op_mulI (op_own (c := 0) rfl F.op_Ratio_mul dec_mul (t_Ratio___mul__ F) (t_Ratio___rmul__ F) (hr.mono (by decide)) (hr.mono (by decide)) hg hg tk (b_Ratio___mul__ F) (b_Ratio___rmul__ F) rfl rfl op_bad)) (sn_var (i := 1)) (sn_var (i := 4)))) (sna_cons (sn_var (i := 4)) sna_nil))) rfl)))) (snw_or (snt_not (snt_val (sn_callG (n := 3) (π := [0, 1, 2]) (t__law_is F) (hr.mono (by decide)) hg tk rfl F.g__law_is F.F__law_is.kp (kb__law_is_3 F) repD_nil cdP (ca_pos (sna_cons (sn_bin (op_addI (op_addS (op_addL (op_own (c := 0) rfl F.op_Ratio_add dec_add (t_Ratio___add__ F) (t_Ratio___radd__ F) (hr.mono (by decide)) (hr.mono (by decide)) hg hg tk (b_Ratio___add__ F) (b_Ratio___radd__ F) rfl rfl op_bad)))) (sn_var (i := 1)) (sn_var (i := 2))) (sna_cons (sn_bin (op_addI (op_addS (op_addL (op_own (c := 0) rfl F.op_Ratio_add dec_add (t_Ratio___add__ F) (t_Ratio___radd__ F) (hr.mono (by decide)) (hr.mono (by decide)) hg hg tk (b_Ratio___add__ F) (b_Ratio___radd__ F) rfl rfl op_bad)))) (sn_var (i := 3)) (sn_bin (op_mulI (op_own (c := 0) rfl F.op_Ratio_mul dec_mul (t_Ratio___mul__ F) (t_Ratio___rmul__ F) (hr.mono (by decide)) (hr.mono (by decide)) hg hg tk (b_Ratio___mul__ F) (b_Ratio___rmul__ F) rfl rfl op_bad)) (sn_var (i := 1)) (sn_var (i := 4)))) (sna_cons (sn_var (i := 4)) sna_nil))) rfl)))) (snw_or1 (snt_not (snt_val (sn_callG (n := 3) (π := [0, 1, 2]) (t__law_is F) (hr.mono (by decide)) hg tk rfl F.g__law_is F.F__law_is.kp (kb__law_is_3 F) repD_nil cdP (ca_pos (sna_cons (sn_bin (op_subS (op_own (c := 0) rfl F.op_Ratio_sub dec_sub (t_Ratio___sub__ F) (t_Ratio___rsub__ F) (hr.mono (by decide)) (hr.mono (by decide)) hg hg tk (b_Ratio___sub__ F) (b_Ratio___rsub__ F) rfl rfl op_bad)) (sn_var (i := 1)) (sn_var (i := 2))) (sna_cons (sn_bin (op_subS (op_own (c := 0) rfl F.op_Ratio_sub dec_sub (t_Ratio___sub__ F) (t_Ratio___rsub__ F) (hr.mono (by decide)) (hr.mono (by decide)) hg hg tk (b_Ratio___sub__ F) (b_Ratio___rsub__ F) rfl rfl op_bad)) (sn_bin (op_mulI (op_own (c := 0) rfl F.op_Ratio_mul dec_mul (t_Ratio___mul__ F) (t_Ratio___rmul__ F) (hr.mono (by decide)) (hr.mono (by decide)) hg hg tk (b_Ratio___mul__ F) (b_Ratio___rmul__ F) rfl rfl op_bad)) (sn_var (i := 1)) (sn_var (i := 4))) (sn_var (i := 3))) (sna_cons (sn_var (i := 4)) sna_nil))) rfl)))))))) (sns_one (sns_ret sn_bl)) sns_nil)
    (sns_cons (sns_if (SnW.t (snw_or (snt_not (snt_val (sn_callG (n := 3) (π := [0, 1, 2]) (t__law_is F) (hr.mono (by decide)) hg tk rfl F.g__law_is F.F__law_is.kp (kb__law_is_3 F) repD_nil cdP (ca_pos (sna_cons (sn_bin (op_subS (op_own (c := 0) rfl F.op_Ratio_sub dec_sub (t_Ratio___sub__ F) (t_Ratio___rsub__ F) (hr.mono (by decide)) (hr.mono (by decide)) hg hg tk (b_Ratio___sub__ F) (b_Ratio___rsub__ F) rfl rfl op_bad)) (sn_var (i := 2)) (sn_var (i := 1))) (sna_cons (sn_bin (op_subS (op_own (c := 0) rfl F.op_Ratio_sub dec_sub (t_Ratio___sub__ F) (t_Ratio___rsub__ F) (hr.mono (by decide)) (hr.mono (by decide)) hg hg tk (b_Ratio___sub__ F) (b_Ratio___rsub__ F) rfl rfl op_bad)) (sn_var (i := 3)) (sn_bin (op_mulI (op_own (c := 0) rfl F.op_Ratio_mul dec_mul (t_Ratio___mul__ F) (t_Ratio___rmul__ F) (hr.mono (by decide)) (hr.mono (by decide)) hg hg tk (b_Ratio___mul__ F) (b_Ratio___rmul__ F) rfl rfl op_bad)) (sn_var (i := 1)) (sn_var (i := 4)))) (sna_cons (sn_var (i := 4)) sna_nil))) rfl)))) (snw_or (snt_not (snt_val (sn_callG (n := 3) (π := [0, 1, 2]) (t__law_is F) (hr.mono (by decide)) hg tk rfl F.g__law_is F.F__law_is.kp (kb__law_is_3 F) repD_nil cdP (ca_pos (sna_cons (sn_bin (op_mulI (op_own (c := 0) rfl F.op_Ratio_mul dec_mul (t_Ratio___mul__ F) (t_Ratio___rmul__ F) (hr.mono (by decide)) (hr.mono (by decide)) hg hg tk (b_Ratio___mul__ F) (b_Ratio___rmul__ F) rfl rfl op_bad)) (sn_var (i := 1)) (sn_var (i := 2))) (sna_cons (sn_bin (op_mulI (op_own (c := 0) rfl F.op_Ratio_mul dec_mul (t_Ratio___mul__ F) (t_Ratio___rmul__ F) (hr.mono (by decide)) (hr.mono (by decide)) hg hg tk (b_Ratio___mul__ F) (b_Ratio___rmul__ F) rfl rfl op_bad)) (sn_var (i := 1)) (sn_var (i := 3))) (sna_cons (sn_var (i := 4)) sna_nil))) rfl)))) (snw_or1 (snt_not (snt_val (sn_callG (n := 3) (π := [0, 1, 2]) (t__law_is F) (hr.mono (by decide)) hg tk rfl F.g__law_is F.F__law_is.kp (kb__law_is_3 F) repD_nil cdP (ca_pos (sna_cons (sn_bin (op_mulI (op_own (c := 0) rfl F.op_Ratio_mul dec_mul (t_Ratio___mul__ F) (t_Ratio___rmul__ F) (hr.mono (by decide)) (hr.mono (by decide)) hg hg tk (b_Ratio___mul__ F) (b_Ratio___rmul__ F) rfl rfl op_bad)) (sn_var (i := 2)) (sn_var (i := 1))) (sna_cons (sn_bin (op_mulI (op_own (c := 0) rfl F.op_Ratio_mul dec_mul (t_Ratio___mul__ F) (t_Ratio___rmul__ F) (hr.mono (by decide)) (hr.mono (by decide)) hg hg tk (b_Ratio___mul__ F) (b_Ratio___rmul__ F) rfl rfl op_bad)) (sn_var (i := 1)) (sn_var (i := 3))) (sna_cons (sn_var (i := 4)) sna_nil))) rfl)))))))) (sns_one (sns_ret sn_bl)) sns_nil)
    (sns_cons (sns_if (SnW.t (snw_and (snt_cmp (op_neP (op_neO (c := 0) rfl F.eq_Ratio (t_Ratio___eq__ F) (hr.mono (by decide)) hg tk (b_Ratio___eq__ F) rfl op_bad)) (sn_var (i := 1)) sn_int) (snw_and1 (snt_not (snt_val (sn_callG (n := 3) (π := [0, 1, 2]) (t__law_is F) (hr.mono (by decide)) hg tk rfl F.g__law_is F.F__law_is.kp (kb__law_is_3 F) repD_nil cdP (ca_pos (sna_cons (sn_methG (c := 0) (n := 1) (π := [0, 1]) (sn_var (i := 2)) rfl F.cls_Ratio F.m_Ratio_over (show ("over" : Str) ∉ (["own_top", "own_bottom"] : List Str) by decide +kernel) (t_Ratio_over F) (hr.mono (by decide)) hg tk (kb_Ratio_over_2 F) repD_nil cdP (ca_pos (sna_cons (sn_var (i := 1)) sna_nil) rfl)) (sna_cons (sn_var (i := 3)) (sna_cons (sn_bin (op_mulI (op_own (c := 0) rfl F.op_Ratio_mul dec_mul (t_Ratio___mul__ F) (t_Ratio___rmul__ F) (hr.mono (by decide)) (hr.mono (by decide)) hg hg tk (b_Ratio___mul__ F) (b_Ratio___rmul__ F) rfl rfl op_bad)) (sn_var (i := 4)) (sn_var (i := 1))) sna_nil))) rfl))))))) (sns_one (sns_ret sn_bl)) sns_nil)
    (sns_cons (sns_if (SnW.t (snw_or (snt_not (snt_val (sn_callG (n := 3) (π := [0, 1, 2]) (t__law_is F) (hr.mono (by decide)) hg tk rfl F.g__law_is F.F__law_is.kp (kb__law_is_3 F) repD_nil cdP (ca_pos (sna_cons (sn_makeG (c := 0) (n := 1) (nf := 2) (π := [1, 2]) (t_Ratio___init__ F) rfl rfl F.mk_Ratio (hr.mono (by decide)) hg tk rfl F.gm_Ratio (kb_Ratio___init___2 F) (repD_int repD_nil) (by decide) (ca_pos (sna_cons (sn_var (i := 1)) sna_nil) rfl)) (sna_cons (sn_var (i := 1)) (sna_cons sn_int sna_nil))) rfl)))) (snw_or1 (snt_cmp (op_isnotBS op_bad) (sn_cmp (op_eqP (op_eqO (c := 0) rfl F.eq_Ratio (t_Ratio___eq__ F) (hr.mono (by decide)) hg tk (b_Ratio___eq__ F) rfl op_bad)) (sn_var (i := 2)) (sn_var (i := 1))) sn_bl)))) (sns_one (sns_ret sn_bl)) sns_nil)
    (sns_cons (sns_set (i := 5) S.nd rfl (by first | exact Or.inl rfl | exact Or.inr rfl) (sn_bin (op_mulI (op_own (c := 0) rfl F.op_Ratio_mul dec_mul (t_Ratio___mul__ F) (t_Ratio___rmul__ F) (hr.mono (by decide)) (hr.mono (by decide)) hg hg tk (b_Ratio___mul__ F) (b_Ratio___rmul__ F) rfl rfl op_bad)) (sn_bin (op_subS (op_own (c := 0) rfl F.op_Ratio_sub dec_sub (t_Ratio___sub__ F) (t_Ratio___rsub__ F) (hr.mono (by decide)) (hr.mono (by decide)) hg hg tk (b_Ratio___sub__ F) (b_Ratio___rsub__ F) rfl rfl op_bad)) (sn_var (i := 3)) (sn_bin (op_mulI (op_own (c := 0) rfl F.op_Ratio_mul dec_mul (t_Ratio___mul__ F) (t_Ratio___rmul__ F) (hr.mono (by decide)) (hr.mono (by decide)) hg hg tk (b_Ratio___mul__ F) (b_Ratio___rmul__ F) rfl rfl op_bad)) (sn_var (i := 1)) (sn_var (i := 4)))) (sn_var (i := 4))))
    (sns_one (sns_ret (sn_cmp (op_eqP (op_eqO (c := 0) rfl F.eq_Ratio (t_Ratio___eq__ F) (hr.mono (by decide)) hg tk (b_Ratio___eq__ F) rfl op_bad)) (sn_cb (cs_repr (c := 0) rfl F.repr_Ratio F.reprf_Ratio (t_Ratio___repr__ F) (hr.mono (by decide)) hg (b_Ratio___repr__ F) rfl (cs_reprL rfl (hg rfl) hr.units cs_bad)) rfl F.b_repr (by decide +kernel) (sna_cons (sn_lst (sna_cons (sn_methG (c := 0) (n := 1) (π := [0, 1]) (sn_var (i := 2)) rfl F.cls_Ratio F.m_Ratio_is_below (show ("is_below" : Str) ∉ (["own_top", "own_bottom"] : List Str) by decide +kernel) (t_Ratio_is_below F) (hr.mono (by decide)) hg tk (kb_Ratio_is_below_2 F) repD_nil cdP (ca_pos (sna_cons (sn_var (i := 1)) sna_nil) rfl)) (sna_cons (sn_methG (c := 0) (n := 1) (π := [0, 1]) (sn_var (i := 2)) rfl F.cls_Ratio F.m_Ratio_is_at_most (show ("is_at_most" : Str) ∉ (["own_top", "own_bottom"] : List Str) by decide +kernel) (t_Ratio_is_at_most F) (hr.mono (by decide)) hg tk (kb_Ratio_is_at_most_2 F) repD_nil cdP (ca_pos (sna_cons (sn_var (i := 1)) sna_nil) rfl)) sna_nil))) sna_nil)) (sn_cb (cs_repr (c := 0) rfl F.repr_Ratio F.reprf_Ratio (t_Ratio___repr__ F) (hr.mono (by decide)) hg (b_Ratio___repr__ F) rfl (cs_reprL rfl (hg rfl) hr.units cs_bad)) rfl F.b_repr (by decide +kernel) (sna_cons (sn_lst (sna_cons (sn_cmp (op_ltS op_bad) (sn_var (i := 5)) sn_int) (sna_cons (sn_cmp (op_leS op_bad) (sn_var (i := 5)) sn_int) sna_nil))) sna_nil)))))))))))
/-! ### Ratio.__neg__ -/
def d_Ratio___neg__ : DF := runB 1 (
    (sRet (dCall [0, 1] [.pv (.int 1)] (mkIns 0 2 d_Ratio___init__) (bindE (dCons (dBin (oSub bad2) (dC (.int 0)) (dFld 0 0 (dVar 0))) (dCons (dFld 0 1 (dVar 0)) dNil)) fun xs => if xs.length = 2 then retE xs else badE))))
theorem t_Ratio___neg__ {prog : Program} {w : World} {K : PySem.W.Frag} {mg : Str → Option Value} {base : Heap} {a : AD} (F : PF K mg a) : FnD prog w K mg base (PR K a) 4 true a.f_Ratio___neg__ a.fd_Ratio___neg__ ["self"] d_Ratio___neg__ := by
  have S : FnScope ["self"] ["self"] (defScope s_Ratio___neg__) := ⟨rfl, rfl, rfl, by decide +kernel, rfl, by decide +kernel, by decide +kernel⟩
  refine FnD.mono (g := true) (k := 4) (FnD.of_fun F.F_Ratio___neg__ S fun cdv A outer s H E hr hg => ?_) (Nat.le_refl _)
  have tk := takes_of (X := cxOf (L2.CX prog w) prog w K mg base ["self"] "Ratio.__neg__" (defScope s_Ratio___neg__) a.f_Ratio___neg__ cdv A outer s H E) rfl rfl rfl rfl
  have hp := passes_of (X := cxOf (L2.CX prog w) prog w K mg base ["self"] "Ratio.__neg__" (defScope s_Ratio___neg__) a.f_Ratio___neg__ cdv A outer s H E) rfl
  exact (sns_one (sns_ret (sn_makeG (c := 0) (n := 2) (nf := 2) (π := [1, 2]) (t_Ratio___init__ F) rfl rfl F.mk_Ratio (hr.mono (by decide)) hg tk rfl F.gm_Ratio (kb_Ratio___init___3 F) (repD_int repD_nil) (by decide) (ca_pos (sna_cons (sn_bin (op_subS op_bad) sn_int (sn_fld (c := 0) (j := 0) (sn_var (i := 0)) rfl rfl F.cls_Ratio F.na_Ratio_own_top nd_Ratio rfl)) (sna_cons (sn_fld (c := 0) (j := 1) (sn_var (i := 0)) rfl rfl F.cls_Ratio F.na_Ratio_own_bottom nd_Ratio rfl) sna_nil)) rfl))))
/-! ### _law_two_right -/
def d__law_two_right : DF := runB 10 (
    (sSeq (sPar 2 3 (dCons (dCall [0, 1] [.pv (.int 1)] (mkIns 0 2 d_Ratio___init__) (bindE (dCons (dBin oIx (dVar 0) (dC (.int 0))) (dCons (dBin oIx (dVar 0) (dC (.int 1))) dNil)) fun xs => if xs.length = 2 then retE xs else badE)) (dCons (dCall [0, 1] [.pv (.int 1)] (mkIns 0 2 d_Ratio___init__) (bindE (dCons (dBin oIx (dVar 1) (dC (.int 0))) (dCons (dBin oIx (dVar 1) (dC (.int 1))) dNil)) fun xs => if xs.length = (["top", "bottom"] : List Str).length then retE xs else badE)) dNil)))
    (sSeq (sAsg (bindE (dCons (dVar 0) (dCons (dVar 1) dNil)) mkTup) (gTupD 2 (gsCons (gTupD 2 (gsCons (gSet 4) (gsCons (gSet 5) gsNil))) (gsCons (gTupD 2 (gsCons (gSet 6) (gsCons (gSet 7) gsNil))) gsNil))))
    (sSeq (sIf (tOrD (tNotD (tB (dCall [0, 1, 2] [] (callP d__law_is) (bindE (dCons (dVar 2) (dCons (dVar 4) (dCons (dVar 5) dNil))) fun xs => if xs.length = 3 then retE xs else badE)))) (tOrD (tNotD (tB (dCall [0, 1, 2] [] (callP d__law_is) (bindE (dCons (dBin (oAddI (oAddS (oAddL (oOwn 0 d_Ratio___add__ d_Ratio___radd__ bad2)))) (dVar 2) (dVar 3)) (dCons (dBin (oAddI (oAddS (oAddL (oOwn 0 d_Ratio___add__ d_Ratio___radd__ bad2)))) (dBin (oMulI (oOwn 0 d_Ratio___mul__ d_Ratio___rmul__ bad2)) (dVar 4) (dVar 7)) (dBin (oMulI (oOwn 0 d_Ratio___mul__ d_Ratio___rmul__ bad2)) (dVar 6) (dVar 5))) (dCons (dBin (oMulI (oOwn 0 d_Ratio___mul__ d_Ratio___rmul__ bad2)) (dVar 5) (dVar 7)) dNil))) fun xs => if xs.length = 3 then retE xs else badE)))) (tNotD (tB (dCall [0, 1, 2] [] (callP d__law_is) (bindE (dCons (dBin (oSub (oOwn 0 d_Ratio___sub__ d_Ratio___rsub__ bad2)) (dVar 2) (dVar 3)) (dCons (dBin (oSub (oOwn 0 d_Ratio___sub__ d_Ratio___rsub__ bad2)) (dBin (oMulI (oOwn 0 d_Ratio___mul__ d_Ratio___rmul__ bad2)) (dVar 4) (dVar 7)) (dBin (oMulI (oOwn 0 d_Ratio___mul__ d_Ratio___rmul__ bad2)) (dVar 6) (dVar 5))) (dCons (dBin (oMulI (oOwn 0 d_Ratio___mul__ d_Ratio___rmul__ bad2)) (dVar 5) (dVar 7)) dNil))) fun xs => if xs.length = 3 then retE xs else badE)))))) (sRet (dC (.bl false))) sNil)
    (sSeq (sIf (tOrD (tNotD (tB (dCall [0, 1, 2] [] (callP d__law_is) (bindE (dCons (dBin (oMulI (oOwn 0 d_Ratio___mul__ d_Ratio___rmul__ bad2)) (dVar 2) (dVar 3)) (dCons (dBin (oMulI (oOwn 0 d_Ratio___mul__ d_Ratio___rmul__ bad2)) (dVar 4) (dVar 6)) (dCons (dBin (oMulI (oOwn 0 d_Ratio___mul__ d_Ratio___rmul__ bad2)) (dVar 5) (dVar 7)) dNil))) fun xs => if xs.length = 3 then retE xs else badE)))) (tNotD (tB (dCall [0, 1, 2] [] (callP d__law_is) (bindE (dCons (bindE (dVar 2) (oNegI (oNegO 0 d_Ratio___neg__ bad1))) (dCons (dBin (oSub (oOwn 0 d_Ratio___sub__ d_Ratio___rsub__ bad2)) (dC (.int 0)) (dVar 4)) (dCons (dVar 5) dNil))) fun xs => if xs.length = 3 then retE xs else badE))))) (sRet (dC (.bl false))) sNil)
    (sSeq (sIf (tAndD (tB (dBin (oEqP true (oNeO 0 d_Ratio___eq__ bad2)) (dVar 6) (dC (.int 0)))) (tNotD (tB (dCall [0, 1, 2] [] (callP d__law_is) (bindE (dCons (dMethG 0 [0, 1] (callP d_Ratio_over) [] (dVar 2) (bindE (dCons (dVar 3) dNil) fun xs => if xs.length = (["other"] : List Str).length then retE xs else badE)) (dCons (dBin (oMulI (oOwn 0 d_Ratio___mul__ d_Ratio___rmul__ bad2)) (dVar 4) (dVar 7)) (dCons (dBin (oMulI (oOwn 0 d_Ratio___mul__ d_Ratio___rmul__ bad2)) (dVar 5) (dVar 6)) dNil))) fun xs => if xs.length = 3 then retE xs else badE))))) (sRet (dC (.bl false))) sNil)
    (sSeq (sSet 8 (dBin (oMulI (oOwn 0 d_Ratio___mul__ d_Ratio___rmul__ bad2)) (dBin (oMulI (oOwn 0 d_Ratio___mul__ d_Ratio___rmul__ bad2)) (dBin (oSub (oOwn 0 d_Ratio___sub__ d_Ratio___rsub__ bad2)) (dBin (oMulI (oOwn 0 d_Ratio___mul__ d_Ratio___rmul__ bad2)) (dVar 4) (dVar 7)) (dBin (oMulI (oOwn 0 d_Ratio___mul__ d_Ratio___rmul__ bad2)) (dVar 6) (dVar 5))) (dVar 5)) (dVar 7)))
    (sSeq (sSet 9 (bindE (dCons (dMethG 0 [0, 1] (callP d_Ratio_is_below) [] (dVar 2) (bindE (dCons (dVar 3) dNil) fun xs => if xs.length = 1 then retE xs else badE)) (dCons (dMethG 0 [0, 1] (callP d_Ratio_is_at_most) [] (dVar 2) (bindE (dCons (dVar 3) dNil) fun xs => if xs.length = 1 then retE xs else badE)) (dCons (dMethG 0 [0, 1] (callP d_Ratio_is_below) [] (dVar 3) (bindE (dCons (dVar 2) dNil) fun xs => if xs.length = (["other"] : List Str).length then retE xs else badE)) (dCons (dBin (oEqP false (oEqO 0 d_Ratio___eq__ bad2)) (dVar 2) (dVar 3)) (dCons (dBin (oEqP true (oNeO 0 d_Ratio___eq__ bad2)) (dVar 2) (dVar 3)) dNil))))) mkLst))
    (sRet (dBin (oEqP false (oEqO 0 d_Ratio___eq__ bad2)) (bindE (dCons (dVar 9) dNil) (oOwn1 0 d_Ratio___repr__ (oReprL badL))) (bindE (dCons (bindE (dCons (dBin (oLt bad2) (dVar 8) (dC (.int 0))) (dCons (dBin (oLe bad2) (dVar 8) (dC (.int 0))) (dCons (dBin (oGt bad2) (dVar 8) (dC (.int 0))) (dCons (dBin (oEqP false (oEqO 0 d_Ratio___eq__ bad2)) (dVar 8) (dC (.int 0))) (dCons (dBin (oEqP true (oNeO 0 d_Ratio___eq__ bad2)) (dVar 8) (dC (.int 0))) dNil))))) mkLst) dNil) (oOwn1 0 d_Ratio___repr__ (oReprL badL)))))))))))))
theorem t__law_two_right {prog : Program} {w : World} {K : PySem.W.Frag} {mg : Str → Option Value} {base : Heap} {a : AD} (F : PF K mg a) : FnD prog w K mg base (PR K a) 8 true a.f__law_two_right a.fd__law_two_right ["_law_one", "_law_other"] d__law_two_right := by
  have S : FnScope ["_law_one", "_law_other", "_law_near", "_law_far", "_law_a", "_law_b", "_law_c", "_law_d", "_law_below", "_law_told"] ["_law_one", "_law_other"] (defScope s__law_two_right) := ⟨rfl, rfl, rfl, by decide +kernel, rfl, by decide +kernel, by decide +kernel⟩
  refine FnD.mono (g := true) (k := 8) (FnD.of_fun F.F__law_two_right S fun cdv A outer s H E hr hg => ?_) (Nat.le_refl _)
  have tk := takes_of (X := cxOf (L2.CX prog w) prog w K mg base ["_law_one", "_law_other", "_law_near", "_law_far", "_law_a", "_law_b", "_law_c", "_law_d", "_law_below", "_law_told"] "_law_two_right" (defScope s__law_two_right) a.f__law_two_right cdv A outer s H E) rfl rfl rfl rfl
  have hp := passes_of (X := cxOf (L2.CX prog w) prog w K mg base ["_law_one", "_law_other", "_law_near", "_law_far", "_law_a", "_law_b", "_law_c", "_law_d", "_law_below", "_law_told"] "_law_two_right" (defScope s__law_two_right) a.f__law_two_right cdv A outer s H E) rfl
  exact (sns_cons (sns_par (i := 2) (j := 3) rfl S.nd rfl rfl (by decide) rfl rfl (sna_cons (sn_makeG (c := 0) (n := 2) (nf := 2) (π := [1, 2]) (t_Ratio___init__ F) rfl rfl F.mk_Ratio (hr.mono (by decide)) hg tk rfl F.gm_Ratio (kb_Ratio___init___3 F) (repD_int repD_nil) (by decide) (ca_pos (sna_cons (sn_ix rfl (sn_var (i := 0)) sn_int) (sna_cons (sn_ix rfl (sn_var (i := 0)) sn_int) sna_nil)) rfl)) (sna_cons (sn_makeG (c := 0) (n := 0) (nf := 2) (π := [1, 2]) (t_Ratio___init__ F) rfl rfl F.mk_Ratio (hr.mono (by decide)) hg tk rfl F.gm_Ratio (kb_Ratio___init___1_top_bottom F) (repD_int repD_nil) (by decide) (ca_kw (ks := ["top", "bottom"]) (snk_cons (sn_ix rfl (sn_var (i := 1)) sn_int) (snk_cons (sn_ix rfl (sn_var (i := 1)) sn_int) snk_nil)))) sna_nil)) (by rfl))
    (sns_cons (sns_asg (sn_tup (sna_cons (sn_var (i := 0)) (sna_cons (sn_var (i := 1)) sna_nil))) (sng_tup rfl rfl (sngs_cons (sng_tup rfl rfl (sngs_cons (sng_name (i := 4) S.nd rfl (by first | exact Or.inl rfl | exact Or.inr rfl)) (sngs_cons (sng_name (i := 5) S.nd rfl (by first | exact Or.inl rfl | exact Or.inr rfl)) sngs_nil))) (sngs_cons (sng_tup rfl rfl (sngs_cons (sng_name (i := 6) S.nd rfl (by first | exact Or.inl rfl | exact Or.inr rfl)) (sngs_cons (sng_name (i := 7) S.nd rfl (by first | exact Or.inl rfl | exact Or.inr rfl)) sngs_nil))) sngs_nil))))
    (sns_cons (sns_if (SnW.t (snw_or (snt_not (snt_val (sn_callG (n := 3) (π := [0, 1, 2]) (t__law_is F) (hr.mono (by decide)) hg tk rfl F.g__law_is F.F__law_is.kp (kb__law_is_3 F) repD_nil cdP (ca_pos (sna_cons (sn_var (i := 2)) (sna_cons (sn_var (i := 4)) (sna_cons (sn_var (i := 5)) sna_nil))) rfl)))) (snw_or (snt_not (snt_val (sn_callG (n := 3) (π := [0, 1, 2]) (t__law_is F) (hr.mono (by decide)) hg tk rfl F.g__law_is F.F__law_is.kp (kb__law_is_3 F) repD_nil cdP (ca_pos (sna_cons (sn_bin (op_addI (op_addS (op_addL (op_own (c := 0) rfl F.op_Ratio_add dec_add (t_Ratio___add__ F) (t_Ratio___radd__ F) (hr.mono (by decide)) (hr.mono (by decide)) hg hg tk (b_Ratio___add__ F) (b_Ratio___radd__ F) rfl rfl op_bad)))) (sn_var (i := 2)) (sn_var (i := 3))) (sna_cons (sn_bin (op_addI (op_addS (op_addL (op_own (c := 0) rfl F.op_Ratio_add dec_add (t_Ratio___add__ F) (t_Ratio___radd__ F) (hr.mono (by decide)) (hr.mono (by decide)) hg hg tk (b_Ratio___add__ F) (b_Ratio___radd__ F) rfl rfl op_bad)))) (sn_bin (op_mulI (op_own (c := 0) rfl F.op_Ratio_mul dec_mul (t_Ratio___mul__ F) (t_Ratio___rmul__ F) (hr.mono (by decide)) (hr.mono (by decide)) hg hg tk (b_Ratio___mul__ F) (b_Ratio___rmul__ F) rfl rfl op_bad)) (sn_var (i := 4)) (sn_var (i := 7))) (sn_bin (op_mulI (op_own (c := 0) rfl F.op_Ratio_mul dec_mul (t_Ratio___mul__ F) (t_Ratio___rmul__ F) (hr.mono (by decide)) (hr.mono (by decide)) hg hg tk (b_Ratio___mul__ F) (b_Ratio___rmul__ F) rfl rfl op_bad)) (sn_var (i := 6)) (sn_var (i := 5)))) (sna_cons (sn_bin (op_mulI (op_own (c := 0) rfl F.op_Ratio_mul dec_mul (t_Ratio___mul__ F) (t_Ratio___rmul__ F) (hr.mono (by decide)) (hr.mono (by decide)) hg hg tk (b_Ratio___mul__ F) (b_Ratio___rmul__ F) rfl rfl op_bad)) (sn_var (i := 5)) (sn_var (i := 7))) sna_nil))) rfl)))) (snw_or1 (snt_not (snt_val (sn_callG (n := 3) (π := [0, 1, 2]) (t__law_is F) (hr.mono (by decide)) hg tk rfl F.g__law_is F.F__law_is.kp (kb__law_is_3 F) repD_nil cdP (ca_pos (sna_cons (sn_bin (op_subS (op_own (c := 0) rfl F.op_Ratio_sub dec_sub (t_Ratio___sub__ F) (t_Ratio___rsub__ F) (hr.mono (by decide)) (hr.mono (by decide)) hg hg tk (b_Ratio___sub__ F) (b_Ratio___rsub__ F) rfl rfl op_bad)) (sn_var (i := 2)) (sn_var (i := 3))) (sna_cons (sn_bin (op_subS (op_own (c := 0) rfl F.op_Ratio_sub dec_sub (t_Ratio___sub__ F) (t_Ratio___rsub__ F) (hr.mono (by decide)) (hr.mono (by decide)) hg hg tk (b_Ratio___sub__ F) (b_Ratio___rsub__ F) rfl rfl op_bad)) (sn_bin (op_mulI (op_own (c := 0) rfl F.op_Ratio_mul dec_mul (t_Ratio___mul__ F) (t_Ratio___rmul__ F) (hr.mono (by decide)) (hr.mono (by decide)) hg hg tk (b_Ratio___mul__ F) (b_Ratio___rmul__ F) rfl rfl op_bad)) (sn_var (i := 4)) (sn_var (i := 7))) (sn_bin (op_mulI (op_own (c := 0) rfl F.op_Ratio_mul dec_mul (t_Ratio___mul__ F) (t_Ratio___rmul__ F) (hr.mono (by decide)) (hr.mono (by decide)) hg hg tk (b_Ratio___mul__ F) (b_Ratio___rmul__ F) rfl rfl op_bad)) (sn_var (i := 6)) (sn_var (i := 5)))) (sna_cons (sn_bin (op_mulI (op_own (c := 0) rfl F.op_Ratio_mul dec_mul (t_Ratio___mul__ F) (t_Ratio___rmul__ F) (hr.mono (by decide)) (hr.mono (by decide)) hg hg tk (b_Ratio___mul__ F) (b_Ratio___rmul__ F) rfl rfl op_bad)) (sn_var (i := 5)) (sn_var (i := 7))) sna_nil))) rfl)))))))) (sns_one (sns_ret sn_bl)) sns_nil)
    (sns_cons (sns_if (SnW.t (snw_or (snt_not (snt_val (sn_callG (n := 3) (π := [0, 1, 2]) (t__law_is F) (hr.mono (by decide)) hg tk rfl F.g__law_is F.F__law_is.kp (kb__law_is_3 F) repD_nil cdP (ca_pos (sna_cons (sn_bin (op_mulI (op_own (c := 0) rfl F.op_Ratio_mul dec_mul (t_Ratio___mul__ F) (t_Ratio___rmul__ F) (hr.mono (by decide)) (hr.mono (by decide)) hg hg tk (b_Ratio___mul__ F) (b_Ratio___rmul__ F) rfl rfl op_bad)) (sn_var (i := 2)) (sn_var (i := 3))) (sna_cons (sn_bin (op_mulI (op_own (c := 0) rfl F.op_Ratio_mul dec_mul (t_Ratio___mul__ F) (t_Ratio___rmul__ F) (hr.mono (by decide)) (hr.mono (by decide)) hg hg tk (b_Ratio___mul__ F) (b_Ratio___rmul__ F) rfl rfl op_bad)) (sn_var (i := 4)) (sn_var (i := 6))) (sna_cons (sn_bin (op_mulI (op_own (c := 0) rfl F.op_Ratio_mul dec_mul (t_Ratio___mul__ F) (t_Ratio___rmul__ F) (hr.mono (by decide)) (hr.mono (by decide)) hg hg tk (b_Ratio___mul__ F) (b_Ratio___rmul__ F) rfl rfl op_bad)) (sn_var (i := 5)) (sn_var (i := 7))) sna_nil))) rfl)))) (snw_or1 (snt_not (snt_val (sn_callG (n := 3) (π := [0, 1, 2]) (t__law_is F) (hr.mono (by decide)) hg tk rfl F.g__law_is F.F__law_is.kp (kb__law_is_3 F) repD_nil cdP (ca_pos (sna_cons (sn_un (un_negS (un_own (c := 0) rfl F.neg_Ratio F.negf_Ratio (t_Ratio___neg__ F) (hr.mono (by decide)) hg tk (b_Ratio___neg__ F) rfl un_bad)) (sn_var (i := 2))) (sna_cons (sn_bin (op_subS (op_own (c := 0) rfl F.op_Ratio_sub dec_sub (t_Ratio___sub__ F) (t_Ratio___rsub__ F) (hr.mono (by decide)) (hr.mono (by decide)) hg hg tk (b_Ratio___sub__ F) (b_Ratio___rsub__ F) rfl rfl op_bad)) sn_int (sn_var (i := 4))) (sna_cons (sn_var (i := 5)) sna_nil))) rfl))))))) (sns_one (sns_ret sn_bl)) sns_nil)
    (sns_cons (sns_if (SnW.t (snw_and (snt_cmp (op_neP (op_neO (c := 0) rfl F.eq_Ratio (t_Ratio___eq__ F) (hr.mono (by decide)) hg tk (b_Ratio___eq__ F) rfl op_bad)) (sn_var (i := 6)) sn_int) (snw_and1 (snt_not (snt_val (sn_callG (n := 3) (π := [0, 1, 2]) (t__law_is F) (hr.mono (by decide)) hg tk rfl F.g__law_is F.F__law_is.kp (kb__law_is_3 F) repD_nil cdP (ca_pos (sna_cons (sn_methG (c := 0) (n := 0) (π := [0, 1]) (sn_var (i := 2)) rfl F.cls_Ratio F.m_Ratio_over (show ("over" : Str) ∉ (["own_top", "own_bottom"] : List Str) by decide +kernel) (t_Ratio_over F) (hr.mono (by decide)) hg tk (kb_Ratio_over_1_other F) repD_nil cdP (ca_kw (ks := ["other"]) (snk_cons (sn_var (i := 3)) snk_nil))) (sna_cons (sn_bin (op_mulI (op_own (c := 0) rfl F.op_Ratio_mul dec_mul (t_Ratio___mul__ F) (t_Ratio___rmul__ F) (hr.mono (by decide)) (hr.mono (by decide)) hg hg tk (b_Ratio___mul__ F) (b_Ratio___rmul__ F) rfl rfl op_bad)) (sn_var (i := 4)) (sn_var (i := 7))) (sna_cons (sn_bin (op_mulI (op_own (c := 0) rfl F.op_Ratio_mul dec_mul (t_Ratio___mul__ F) (t_Ratio___rmul__ F) (hr.mono (by decide)) (hr.mono (by decide)) hg hg tk (b_Ratio___mul__ F) (b_Ratio___rmul__ F) rfl rfl op_bad)) (sn_var (i := 5)) (sn_var (i := 6))) sna_nil))) rfl))))))) (sns_one (sns_ret sn_bl)) sns_nil)
    (sns_cons (sns_set (i := 8) S.nd rfl (by first | exact Or.inl rfl | exact Or.inr rfl) (sn_bin (op_mulI (op_own (c := 0) rfl F.op_Ratio_mul dec_mul (t_Ratio___mul__ F) (t_Ratio___rmul__ F) (hr.mono (by decide)) (hr.mono (by decide)) hg hg tk (b_Ratio___mul__ F) (b_Ratio___rmul__ F) rfl rfl op_bad)) (sn_bin (op_mulI (op_own (c := 0) rfl F.op_Ratio_mul dec_mul (t_Ratio___mul__ F) (t_Ratio___rmul__ F) (hr.mono (by decide)) (hr.mono (by decide)) hg hg tk (b_Ratio___mul__ F) (b_Ratio___rmul__ F) rfl rfl op_bad)) (sn_bin (op_subS (op_own (c := 0) rfl F.op_Ratio_sub dec_sub (t_Ratio___sub__ F) (t_Ratio___rsub__ F) (hr.mono (by decide)) (hr.mono (by decide)) hg hg tk (b_Ratio___sub__ F) (b_Ratio___rsub__ F) rfl rfl op_bad)) (sn_bin (op_mulI (op_own (c := 0) rfl F.op_Ratio_mul dec_mul (t_Ratio___mul__ F) (t_Ratio___rmul__ F) (hr.mono (by decide)) (hr.mono (by decide)) hg hg tk (b_Ratio___mul__ F) (b_Ratio___rmul__ F) rfl rfl op_bad)) (sn_var (i := 4)) (sn_var (i := 7))) (sn_bin (op_mulI (op_own (c := 0) rfl F.op_Ratio_mul dec_mul (t_Ratio___mul__ F) (t_Ratio___rmul__ F) (hr.mono (by decide)) (hr.mono (by decide)) hg hg tk (b_Ratio___mul__ F) (b_Ratio___rmul__ F) rfl rfl op_bad)) (sn_var (i := 6)) (sn_var (i := 5)))) (sn_var (i := 5))) (sn_var (i := 7))))
    (sns_cons (sns_set (i := 9) S.nd rfl (by first | exact Or.inl rfl | exact Or.inr rfl) (sn_lst (sna_cons (sn_methG (c := 0) (n := 1) (π := [0, 1]) (sn_var (i := 2)) rfl F.cls_Ratio F.m_Ratio_is_below (show ("is_below" : Str) ∉ (["own_top", "own_bottom"] : List Str) by decide +kernel) (t_Ratio_is_below F) (hr.mono (by decide)) hg tk (kb_Ratio_is_below_2 F) repD_nil cdP (ca_pos (sna_cons (sn_var (i := 3)) sna_nil) rfl)) (sna_cons (sn_methG (c := 0) (n := 1) (π := [0, 1]) (sn_var (i := 2)) rfl F.cls_Ratio F.m_Ratio_is_at_most (show ("is_at_most" : Str) ∉ (["own_top", "own_bottom"] : List Str) by decide +kernel) (t_Ratio_is_at_most F) (hr.mono (by decide)) hg tk (kb_Ratio_is_at_most_2 F) repD_nil cdP (ca_pos (sna_cons (sn_var (i := 3)) sna_nil) rfl)) (sna_cons (sn_methG (c := 0) (n := 0) (π := [0, 1]) (sn_var (i := 3)) rfl F.cls_Ratio F.m_Ratio_is_below (show ("is_below" : Str) ∉ (["own_top", "own_bottom"] : List Str) by decide +kernel) (t_Ratio_is_below F) (hr.mono (by decide)) hg tk (kb_Ratio_is_below_1_other F) repD_nil cdP (ca_kw (ks := ["other"]) (snk_cons (sn_var (i := 2)) snk_nil))) (sna_cons (sn_cmp (op_eqP (op_eqO (c := 0) rfl F.eq_Ratio (t_Ratio___eq__ F) (hr.mono (by decide)) hg tk (b_Ratio___eq__ F) rfl op_bad)) (sn_var (i := 2)) (sn_var (i := 3))) (sna_cons (sn_cmp (op_neP (op_neO (c := 0) rfl F.eq_Ratio (t_Ratio___eq__ F) (hr.mono (by decide)) hg tk (b_Ratio___eq__ F) rfl op_bad)) (sn_var (i := 2)) (sn_var (i := 3))) sna_nil)))))))
    (sns_one (sns_ret (sn_cmp (op_eqP (op_eqO (c := 0) rfl F.eq_Ratio (t_Ratio___eq__ F) (hr.mono (by decide)) hg tk (b_Ratio___eq__ F) rfl op_bad)) (sn_cb (cs_repr (c := 0) rfl F.repr_Ratio F.reprf_Ratio (t_Ratio___repr__ F) (hr.mono (by decide)) hg (b_Ratio___repr__ F) rfl (cs_reprL rfl (hg rfl) hr.units cs_bad)) rfl F.b_repr (by decide +kernel) (sna_cons (sn_var (i := 9)) sna_nil)) (sn_cb (cs_repr (c := 0) rfl F.repr_Ratio F.reprf_Ratio (t_Ratio___repr__ F) (hr.mono (by decide)) hg (b_Ratio___repr__ F) rfl (cs_reprL rfl (hg rfl) hr.units cs_bad)) rfl F.b_repr (by decide +kernel) (sna_cons (sn_lst (sna_cons (sn_cmp (op_ltS op_bad) (sn_var (i := 8)) sn_int) (sna_cons (sn_cmp (op_leS op_bad) (sn_var (i := 8)) sn_int) (sna_cons (sn_cmp (op_gtS op_bad) (sn_var (i := 8)) sn_int) (sna_cons (sn_cmp (op_eqP (op_eqO (c := 0) rfl F.eq_Ratio (t_Ratio___eq__ F) (hr.mono (by decide)) hg tk (b_Ratio___eq__ F) rfl op_bad)) (sn_var (i := 8)) sn_int) (sna_cons (sn_cmp (op_neP (op_neO (c := 0) rfl F.eq_Ratio (t_Ratio___eq__ F) (hr.mono (by decide)) hg tk (b_Ratio___eq__ F) rfl op_bad)) (sn_var (i := 8)) sn_int) sna_nil)))))) sna_nil))))))))))))
/-! ### _law_top -/
def d__law_top : DF := runB 4 (
    (sSeq (sSet 1 (dCall [0, 1] [] (callS d__law_draw) (bindE (dCons (dVar 0) (dCons (dC (.int 5)) dNil)) fun xs => if xs.length = 2 then retE xs else badE)))
    (sSeq (sIf (tB (dBin (oLt bad2) (dVar 1) (dC (.int 3)))) (sRet (dBin (oSub (oOwn 0 d_Ratio___sub__ d_Ratio___rsub__ bad2)) (dCall [0, 1] [] (callS d__law_draw) (bindE (dCons (dVar 0) (dCons (dC (.int 25)) dNil)) fun xs => if xs.length = 2 then retE xs else badE)) (dC (.int 12)))) sNil)
    (sSeq (sSet 2 (dC (.int 0)))
    (sSeq (sFor (dRng1 (dCons (dIf (tB (dBin (oEqP false (oEqO 0 d_Ratio___eq__ bad2)) (dVar 1) (dC (.int 3)))) (dC (.int 3)) (dC (.int 5))) dNil)) (gSet 3) (sSet 2 (dBin (oAddI (oAddS (oAddL (oOwn 0 d_Ratio___add__ d_Ratio___radd__ bad2)))) (dBin (oMulI (oOwn 0 d_Ratio___mul__ d_Ratio___rmul__ bad2)) (dVar 2) (dBin (oPow bad2) (dC (.int 10)) (dC (.int 9)))) (dCall [0, 1] [] (callS d__law_draw) (bindE (dCons (dVar 0) (dCons (dBin (oPow bad2) (dC (.int 10)) (dC (.int 9))) dNil)) fun xs => if xs.length = 2 then retE xs else badE)))))
    (sRet (dIf (tB (dBin (oEqP false (oEqO 0 d_Ratio___eq__ bad2)) (dCall [0, 1] [] (callS d__law_draw) (bindE (dCons (dVar 0) (dCons (dC (.int 2)) dNil)) fun xs => if xs.length = 2 then retE xs else badE)) (dC (.int 0)))) (dVar 2) (dBin (oSub (oOwn 0 d_Ratio___sub__ d_Ratio___rsub__ bad2)) (dC (.int 0)) (dVar 2)))))))))
theorem t__law_top {prog : Program} {w : World} {K : PySem.W.Frag} {mg : Str → Option Value} {base : Heap} {a : AD} (F : PF K mg a) : FnD prog w K mg base (PR K a) 6 true a.f__law_top a.fd__law_top ["_law_pot_here"] d__law_top := by
  have S : FnScope ["_law_pot_here", "_law_way", "_law_found", "_law_turn"] ["_law_pot_here"] (defScope s__law_top) := ⟨rfl, rfl, rfl, by decide +kernel, rfl, by decide +kernel, by decide +kernel⟩
  refine FnD.mono (g := true) (k := 6) (FnD.of_fun F.F__law_top S fun cdv A outer s H E hr hg => ?_) (Nat.le_refl _)
  have tk := takes_of (X := cxOf (L2.CX prog w) prog w K mg base ["_law_pot_here", "_law_way", "_law_found", "_law_turn"] "_law_top" (defScope s__law_top) a.f__law_top cdv A outer s H E) rfl rfl rfl rfl
  have hp := passes_of (X := cxOf (L2.CX prog w) prog w K mg base ["_law_pot_here", "_law_way", "_law_found", "_law_turn"] "_law_top" (defScope s__law_top) a.f__law_top cdv A outer s H E) rfl
  exact (sns_cons (sns_set (i := 1) S.nd rfl (by first | exact Or.inl rfl | exact Or.inr rfl) (sn_callG (n := 2) (π := [0, 1]) (t__law_draw F) (hr.mono (by decide)) hg tk rfl F.g__law_draw F.F__law_draw.kp (kb__law_draw_2 F) repD_nil cdS (ca_pos (sna_cons (sn_var (i := 0)) (sna_cons sn_int sna_nil)) rfl)))
    (sns_cons (sns_if (snt_cmp (op_ltS op_bad) (sn_var (i := 1)) sn_int) (sns_one (sns_ret (sn_bin (op_subS (op_own (c := 0) rfl F.op_Ratio_sub dec_sub (t_Ratio___sub__ F) (t_Ratio___rsub__ F) (hr.mono (by decide)) (hr.mono (by decide)) hg hg tk (b_Ratio___sub__ F) (b_Ratio___rsub__ F) rfl rfl op_bad)) (sn_callG (n := 2) (π := [0, 1]) (t__law_draw F) (hr.mono (by decide)) hg tk rfl F.g__law_draw F.F__law_draw.kp (kb__law_draw_2 F) repD_nil cdS (ca_pos (sna_cons (sn_var (i := 0)) (sna_cons sn_int sna_nil)) rfl)) sn_int))) sns_nil)
    (sns_cons (sns_set (i := 2) S.nd rfl (by first | exact Or.inl rfl | exact Or.inr rfl) sn_int)
    (sns_cons (sns_for hp rfl (sni_range1 rfl F.b_range (sna_cons (sn_if (snt_cmp (op_eqP (op_eqO (c := 0) rfl F.eq_Ratio (t_Ratio___eq__ F) (hr.mono (by decide)) hg tk (b_Ratio___eq__ F) rfl op_bad)) (sn_var (i := 1)) sn_int) sn_int sn_int) sna_nil)) (sng_name (i := 3) S.nd rfl (by first | exact Or.inl rfl | exact Or.inr rfl)) (sns_one (sns_set (i := 2) S.nd rfl (by first | exact Or.inl rfl | exact Or.inr rfl) (sn_bin (op_addI (op_addS (op_addL (op_own (c := 0) rfl F.op_Ratio_add dec_add (t_Ratio___add__ F) (t_Ratio___radd__ F) (hr.mono (by decide)) (hr.mono (by decide)) hg hg tk (b_Ratio___add__ F) (b_Ratio___radd__ F) rfl rfl op_bad)))) (sn_bin (op_mulI (op_own (c := 0) rfl F.op_Ratio_mul dec_mul (t_Ratio___mul__ F) (t_Ratio___rmul__ F) (hr.mono (by decide)) (hr.mono (by decide)) hg hg tk (b_Ratio___mul__ F) (b_Ratio___rmul__ F) rfl rfl op_bad)) (sn_var (i := 2)) (sn_bin (op_powS op_bad) sn_int sn_int)) (sn_callG (n := 2) (π := [0, 1]) (t__law_draw F) (hr.mono (by decide)) hg tk rfl F.g__law_draw F.F__law_draw.kp (kb__law_draw_2 F) repD_nil cdS (ca_pos (sna_cons (sn_var (i := 0)) (sna_cons (sn_bin (op_powS op_bad) sn_int sn_int) sna_nil)) rfl))))))
    (sns_one (sns_ret (sn_if (snt_cmp (op_eqP (op_eqO (c := 0) rfl F.eq_Ratio (t_Ratio___eq__ F) (hr.mono (by decide)) hg tk (b_Ratio___eq__ F) rfl op_bad)) (sn_callG (n := 2) (π := [0, 1]) (t__law_draw F) (hr.mono (by decide)) hg tk rfl F.g__law_draw F.F__law_draw.kp (kb__law_draw_2 F) repD_nil cdS (ca_pos (sna_cons (sn_var (i := 0)) (sna_cons sn_int sna_nil)) rfl)) sn_int) (sn_var (i := 2)) (sn_bin (op_subS (op_own (c := 0) rfl F.op_Ratio_sub dec_sub (t_Ratio___sub__ F) (t_Ratio___rsub__ F) (hr.mono (by decide)) (hr.mono (by decide)) hg hg tk (b_Ratio___sub__ F) (b_Ratio___rsub__ F) rfl rfl op_bad)) sn_int (sn_var (i := 2))))))))))
/-! ### _law_pair -/
def d__law_pair : DF := runB 2 (
    (sSeq (sSet 1 (dIf (tB (dBin (oEqP false (oEqO 0 d_Ratio___eq__ bad2)) (dCall [0, 1] [] (callS d__law_draw) (bindE (dCons (dVar 0) (dCons (dC (.int 3)) dNil)) fun xs => if xs.length = 2 then retE xs else badE)) (dC (.int 0)))) (dCall [0] [] (callS d__law_top) (bindE (dCons (dVar 0) dNil) fun xs => if xs.length = 1 then retE xs else badE)) (dBin (oAddI (oAddS (oAddL (oOwn 0 d_Ratio___add__ d_Ratio___radd__ bad2)))) (dC (.int 1)) (dCall [0, 1] [] (callS d__law_draw) (bindE (dCons (dVar 0) (dCons (dC (.int 12)) dNil)) fun xs => if xs.length = 2 then retE xs else badE)))))
    (sRet (bindE (dCons (dCall [0] [] (callS d__law_top) (bindE (dCons (dVar 0) dNil) fun xs => if xs.length = 1 then retE xs else badE)) (dCons (dIf (tB (dBin (oEqP true (oNeO 0 d_Ratio___eq__ bad2)) (dVar 1) (dC (.int 0)))) (dVar 1) (dC (.int 5))) dNil)) mkTup))))
theorem t__law_pair {prog : Program} {w : World} {K : PySem.W.Frag} {mg : Str → Option Value} {base : Heap} {a : AD} (F : PF K mg a) : FnD prog w K mg base (PR K a) 7 true a.f__law_pair a.fd__law_pair ["_law_pot_here"] d__law_pair := by
  have S : FnScope ["_law_pot_here", "_law_bottom"] ["_law_pot_here"] (defScope s__law_pair) := ⟨rfl, rfl, rfl, by decide +kernel, rfl, by decide +kernel, by decide +kernel⟩
  refine FnD.mono (g := true) (k := 7) (FnD.of_fun F.F__law_pair S fun cdv A outer s H E hr hg => ?_) (Nat.le_refl _)
  have tk := takes_of (X := cxOf (L2.CX prog w) prog w K mg base ["_law_pot_here", "_law_bottom"] "_law_pair" (defScope s__law_pair) a.f__law_pair cdv A outer s H E) rfl rfl rfl rfl
  have hp := passes_of (X := cxOf (L2.CX prog w) prog w K mg base ["_law_pot_here", "_law_bottom"] "_law_pair" (defScope s__law_pair) a.f__law_pair cdv A outer s H E) rfl
  exact (sns_cons (sns_set (i := 1) S.nd rfl (by first | exact Or.inl rfl | exact Or.inr rfl) (sn_if (snt_cmp (op_eqP (op_eqO (c := 0) rfl F.eq_Ratio (t_Ratio___eq__ F) (hr.mono (by decide)) hg tk (b_Ratio___eq__ F) rfl op_bad)) (sn_callG (n := 2) (π := [0, 1]) (t__law_draw F) (hr.mono (by decide)) hg tk rfl F.g__law_draw F.F__law_draw.kp (kb__law_draw_2 F) repD_nil cdS (ca_pos (sna_cons (sn_var (i := 0)) (sna_cons sn_int sna_nil)) rfl)) sn_int) (sn_callG (n := 1) (π := [0]) (t__law_top F) (hr.mono (by decide)) hg tk rfl F.g__law_top F.F__law_top.kp (kb__law_top_1 F) repD_nil cdS (ca_pos (sna_cons (sn_var (i := 0)) sna_nil) rfl)) (sn_bin (op_addI (op_addS (op_addL (op_own (c := 0) rfl F.op_Ratio_add dec_add (t_Ratio___add__ F) (t_Ratio___radd__ F) (hr.mono (by decide)) (hr.mono (by decide)) hg hg tk (b_Ratio___add__ F) (b_Ratio___radd__ F) rfl rfl op_bad)))) sn_int (sn_callG (n := 2) (π := [0, 1]) (t__law_draw F) (hr.mono (by decide)) hg tk rfl F.g__law_draw F.F__law_draw.kp (kb__law_draw_2 F) repD_nil cdS (ca_pos (sna_cons (sn_var (i := 0)) (sna_cons sn_int sna_nil)) rfl)))))
    (sns_one (sns_ret (sn_tup (sna_cons (sn_callG (n := 1) (π := [0]) (t__law_top F) (hr.mono (by decide)) hg tk rfl F.g__law_top F.F__law_top.kp (kb__law_top_1 F) repD_nil cdS (ca_pos (sna_cons (sn_var (i := 0)) sna_nil) rfl)) (sna_cons (sn_if (snt_cmp (op_neP (op_neO (c := 0) rfl F.eq_Ratio (t_Ratio___eq__ F) (hr.mono (by decide)) hg tk (b_Ratio___eq__ F) rfl op_bad)) (sn_var (i := 1)) sn_int) (sn_var (i := 1)) sn_int) sna_nil))))))
/-! ### _law_pot -/
def d__law_pot : DF := runB 3 (
    (sSeq (sSet 2 (dBin (oAddI (oAddS (oAddL (oOwn 0 d_Ratio___add__ d_Ratio___radd__ bad2)))) (dBin (oMulI (oOwn 0 d_Ratio___mul__ d_Ratio___rmul__ bad2)) (dC (.int 887)) (dVar 1)) (dC (.int 613))))
    (sSeq (sIf (tB (dBin (oLt bad2) (dVar 1) (bindE (dCons (dVar 0) dNil) oLen))) (sSet 2 (bindE (dCons (dBin oIx (dVar 0) (dVar 1)) dNil) oAbs)) sNil)
    (sRet (bindE (dCons (bindE (dCons (dC (.int 0)) (dCons (dBin (oSub (oOwn 0 d_Ratio___sub__ d_Ratio___rsub__ bad2)) (dVar 2) (dBin (oPow bad2) (dC (.int 10)) (dC (.int 18)))) dNil)) oMax2) (dCons (dBin (oAddI (oAddS (oAddL (oOwn 0 d_Ratio___add__ d_Ratio___radd__ bad2)))) (dBin (oMod bad2) (bindE (dCons (dBin (oAddI (oAddS (oAddL (oOwn 0 d_Ratio___add__ d_Ratio___radd__ bad2)))) (dBin (oMulI (oOwn 0 d_Ratio___mul__ d_Ratio___rmul__ bad2)) (dBin (oMod bad2) (bindE (dCons (dVar 2) dNil) oInt) (dC (.int 2147483549))) (dBin (oAddI (oAddS (oAddL (oOwn 0 d_Ratio___add__ d_Ratio___radd__ bad2)))) (dBin (oMulI (oOwn 0 d_Ratio___mul__ d_Ratio___rmul__ bad2)) (dC (.int 2)) (dVar 1)) (dC (.int 563)))) (dC (.int 1307))) dNil) oInt) (dC (.int 2147483543))) (dC (.int 1))) dNil)) newCell)))))
theorem t__law_pot {prog : Program} {w : World} {K : PySem.W.Frag} {mg : Str → Option Value} {base : Heap} {a : AD} (F : PF K mg a) : FnD prog w K mg base (PR K a) 5 true a.f__law_pot a.fd__law_pot ["_law_script", "_law_k"] d__law_pot := by
  have S : FnScope ["_law_script", "_law_k", "_law_cell"] ["_law_script", "_law_k"] (defScope s__law_pot) := ⟨rfl, rfl, rfl, by decide +kernel, rfl, by decide +kernel, by decide +kernel⟩
  refine FnD.mono (g := true) (k := 5) (FnD.of_fun F.F__law_pot S fun cdv A outer s H E hr hg => ?_) (Nat.le_refl _)
  have tk := takes_of (X := cxOf (L2.CX prog w) prog w K mg base ["_law_script", "_law_k", "_law_cell"] "_law_pot" (defScope s__law_pot) a.f__law_pot cdv A outer s H E) rfl rfl rfl rfl
  have hp := passes_of (X := cxOf (L2.CX prog w) prog w K mg base ["_law_script", "_law_k", "_law_cell"] "_law_pot" (defScope s__law_pot) a.f__law_pot cdv A outer s H E) rfl
  exact (sns_cons (sns_set (i := 2) S.nd rfl (by first | exact Or.inl rfl | exact Or.inr rfl) (sn_bin (op_addI (op_addS (op_addL (op_own (c := 0) rfl F.op_Ratio_add dec_add (t_Ratio___add__ F) (t_Ratio___radd__ F) (hr.mono (by decide)) (hr.mono (by decide)) hg hg tk (b_Ratio___add__ F) (b_Ratio___radd__ F) rfl rfl op_bad)))) (sn_bin (op_mulI (op_own (c := 0) rfl F.op_Ratio_mul dec_mul (t_Ratio___mul__ F) (t_Ratio___rmul__ F) (hr.mono (by decide)) (hr.mono (by decide)) hg hg tk (b_Ratio___mul__ F) (b_Ratio___rmul__ F) rfl rfl op_bad)) sn_int (sn_var (i := 1))) sn_int))
    (sns_cons (sns_if (snt_cmp (op_ltS op_bad) (sn_var (i := 1)) (sn_cb (cs_len rfl) rfl F.b_len (by decide +kernel) (sna_cons (sn_var (i := 0)) sna_nil))) (sns_one (sns_set (i := 2) S.nd rfl (by first | exact Or.inl rfl | exact Or.inr rfl) (sn_cb cs_abs rfl F.b_abs (by decide +kernel) (sna_cons (sn_ix rfl (sn_var (i := 0)) (sn_var (i := 1))) sna_nil)))) sns_nil)
    (sns_one (sns_ret (sn_cell (sna_cons (sn_cb (cs_max2 rfl) rfl F.b_max (by decide +kernel) (sna_cons sn_int (sna_cons (sn_bin (op_subS (op_own (c := 0) rfl F.op_Ratio_sub dec_sub (t_Ratio___sub__ F) (t_Ratio___rsub__ F) (hr.mono (by decide)) (hr.mono (by decide)) hg hg tk (b_Ratio___sub__ F) (b_Ratio___rsub__ F) rfl rfl op_bad)) (sn_var (i := 2)) (sn_bin (op_powS op_bad) sn_int sn_int)) sna_nil))) (sna_cons (sn_bin (op_addI (op_addS (op_addL (op_own (c := 0) rfl F.op_Ratio_add dec_add (t_Ratio___add__ F) (t_Ratio___radd__ F) (hr.mono (by decide)) (hr.mono (by decide)) hg hg tk (b_Ratio___add__ F) (b_Ratio___radd__ F) rfl rfl op_bad)))) (sn_bin (op_modS op_bad) (sn_cbT cs_int rfl F.b_int (by decide +kernel) (sna_cons (sn_bin (op_addI (op_addS (op_addL (op_own (c := 0) rfl F.op_Ratio_add dec_add (t_Ratio___add__ F) (t_Ratio___radd__ F) (hr.mono (by decide)) (hr.mono (by decide)) hg hg tk (b_Ratio___add__ F) (b_Ratio___radd__ F) rfl rfl op_bad)))) (sn_bin (op_mulI (op_own (c := 0) rfl F.op_Ratio_mul dec_mul (t_Ratio___mul__ F) (t_Ratio___rmul__ F) (hr.mono (by decide)) (hr.mono (by decide)) hg hg tk (b_Ratio___mul__ F) (b_Ratio___rmul__ F) rfl rfl op_bad)) (sn_bin (op_modS op_bad) (sn_cbT cs_int rfl F.b_int (by decide +kernel) (sna_cons (sn_var (i := 2)) sna_nil)) sn_int) (sn_bin (op_addI (op_addS (op_addL (op_own (c := 0) rfl F.op_Ratio_add dec_add (t_Ratio___add__ F) (t_Ratio___radd__ F) (hr.mono (by decide)) (hr.mono (by decide)) hg hg tk (b_Ratio___add__ F) (b_Ratio___radd__ F) rfl rfl op_bad)))) (sn_bin (op_mulI (op_own (c := 0) rfl F.op_Ratio_mul dec_mul (t_Ratio___mul__ F) (t_Ratio___rmul__ F) (hr.mono (by decide)) (hr.mono (by decide)) hg hg tk (b_Ratio___mul__ F) (b_Ratio___rmul__ F) rfl rfl op_bad)) sn_int (sn_var (i := 1))) sn_int)) sn_int) sna_nil)) sn_int) sn_int) sna_nil)))))))
/-! ### law -/
def d_law : DF := runB 6 (
    (sSeq (sSet 1 (dCall [0, 1] [] (callS d__law_pot) (bindE (dCons (dVar 0) (dCons (dC (.int 0)) dNil)) fun xs => if xs.length = 2 then retE xs else badE)))
    (sSeq (sSet 2 (bindE (dCons (dCall [0] [] (callS d__law_pair) (bindE (dCons (dVar 1) dNil) fun xs => if xs.length = 1 then retE xs else badE)) (dCons (dCall [0] [] (callS d__law_pair) (bindE (dCons (dVar 1) dNil) fun xs => if xs.length = 1 then retE xs else badE)) (dCons (bindE (dCons (dC (.int 0)) (dCons (dC (.int 3)) dNil)) mkTup) dNil))) newCell))
    (sSeq (sDrop (dBM oApp (dVar 2) (dCons (bindE (dCons (dBin (oMulI (oOwn 0 d_Ratio___mul__ d_Ratio___rmul__ bad2)) (dBin oIx (dBin oIx (dVar 2) (dC (.int 0))) (dC (.int 0))) (dC (.int 6))) (dCons (dBin (oMulI (oOwn 0 d_Ratio___mul__ d_Ratio___rmul__ bad2)) (dBin oIx (dBin oIx (dVar 2) (dC (.int 0))) (dC (.int 1))) (dC (.int 6))) dNil)) mkTup) dNil)))
    (sSeq (sDrop (dBM oApp (dVar 2) (dCons (bindE (dCons (dBin (oSub (oOwn 0 d_Ratio___sub__ d_Ratio___rsub__ bad2)) (dC (.int 0)) (dBin oIx (dBin oIx (dVar 2) (dC (.int 1))) (dC (.int 0)))) (dCons (dBin (oSub (oOwn 0 d_Ratio___sub__ d_Ratio___rsub__ bad2)) (dC (.int 0)) (dBin oIx (dBin oIx (dVar 2) (dC (.int 1))) (dC (.int 1)))) dNil)) mkTup) dNil)))
    (sSeq (sSet 3 (dCall [0] [] (callS d__law_whole) (bindE (dCons (dVar 1) dNil) fun xs => if xs.length = 1 then retE xs else badE)))
    (sSeq (sFor (dItemsA (bindE (dVar 2) fun x => bindE pNone fun l => bindE (pSome (dC (.int 2))) fun h => oSl x l h)) (gSet 4) (sIf (tOrD (tNotD (tB (bindE (dCons (dFrz (dLc [5] (dItemsA (dFrz (dVar 2))) (gSet 5) dYes (dCall [0, 1] [] (callP d__law_two_right) (bindE (dCons (dVar 4) (dCons (dVar 5) dNil)) fun xs => if xs.length = 2 then retE xs else badE)))) dNil) oAll))) (tNotD (tB (dCall [0, 1] [] (callP d__law_whole_right) (bindE (dCons (dVar 4) (dCons (dVar 3) dNil)) fun xs => if xs.length = 2 then retE xs else badE))))) (sRet (dC (.bl false))) sNil))
    (sRet (dAndV (dCall [0, 1] [] (callP d__law_whole_right) (bindE (dCons (dBin oIx (dVar 2) (dC (.int 2))) (dCons (dVar 3) dNil)) fun xs => if xs.length = 2 then retE xs else badE)) (dAndV (dCall [0, 1] [] (callP d__law_whole_right) (bindE (dCons (dBin oIx (dVar 2) (dC (.int 0))) (dCons (dC (.int 0)) dNil)) fun xs => if xs.length = 2 then retE xs else badE)) (dCall [0, 1] [] (callS d__law_total_right) (bindE (dCons (dVar 1) (dCons (dFrz (dVar 2)) dNil)) fun xs => if xs.length = 2 then retE xs else badE))))))))))))
theorem t_law {prog : Program} {w : World} {K : PySem.W.Frag} {mg : Str → Option Value} {base : Heap} {a : AD} (F : PF K mg a) : FnD prog w K mg base (PR K a) 9 true a.f_law a.fd_law ["_law_script"] d_law := by
  have S : FnScope ["_law_script", "_law_pot_here", "_law_pairs", "_law_whole_here", "_law_one", "_law_other"] ["_law_script"] (defScope s_law) := ⟨rfl, rfl, rfl, by decide +kernel, rfl, by decide +kernel, by decide +kernel⟩
  refine FnD.mono (g := true) (k := 9) (FnD.of_fun F.F_law S fun cdv A outer s H E hr hg => ?_) (Nat.le_refl _)
  have tk := takes_of (X := cxOf (L2.CX prog w) prog w K mg base ["_law_script", "_law_pot_here", "_law_pairs", "_law_whole_here", "_law_one", "_law_other"] "law" (defScope s_law) a.f_law cdv A outer s H E) rfl rfl rfl rfl
  have hp := passes_of (X := cxOf (L2.CX prog w) prog w K mg base ["_law_script", "_law_pot_here", "_law_pairs", "_law_whole_here", "_law_one", "_law_other"] "law" (defScope s_law) a.f_law cdv A outer s H E) rfl
  exact (sns_cons (sns_set (i := 1) S.nd rfl (by first | exact Or.inl rfl | exact Or.inr rfl) (sn_callG (n := 2) (π := [0, 1]) (t__law_pot F) (hr.mono (by decide)) hg tk rfl F.g__law_pot F.F__law_pot.kp (kb__law_pot_2 F) repD_nil cdS (ca_pos (sna_cons (sn_var (i := 0)) (sna_cons sn_int sna_nil)) rfl)))
    (sns_cons (sns_set (i := 2) S.nd rfl (by first | exact Or.inl rfl | exact Or.inr rfl) (sn_cell (sna_cons (sn_callG (n := 1) (π := [0]) (t__law_pair F) (hr.mono (by decide)) hg tk rfl F.g__law_pair F.F__law_pair.kp (kb__law_pair_1 F) repD_nil cdS (ca_pos (sna_cons (sn_var (i := 1)) sna_nil) rfl)) (sna_cons (sn_callG (n := 1) (π := [0]) (t__law_pair F) (hr.mono (by decide)) hg tk rfl F.g__law_pair F.F__law_pair.kp (kb__law_pair_1 F) repD_nil cdS (ca_pos (sna_cons (sn_var (i := 1)) sna_nil) rfl)) (sna_cons (sn_tup (sna_cons sn_int (sna_cons sn_int sna_nil))) sna_nil)))))
    (sns_cons (sns_expr (sn_append (sn_var (i := 2)) (sna_cons (sn_tup (sna_cons (sn_bin (op_mulI (op_own (c := 0) rfl F.op_Ratio_mul dec_mul (t_Ratio___mul__ F) (t_Ratio___rmul__ F) (hr.mono (by decide)) (hr.mono (by decide)) hg hg tk (b_Ratio___mul__ F) (b_Ratio___rmul__ F) rfl rfl op_bad)) (sn_ix rfl (sn_ix rfl (sn_var (i := 2)) sn_int) sn_int) sn_int) (sna_cons (sn_bin (op_mulI (op_own (c := 0) rfl F.op_Ratio_mul dec_mul (t_Ratio___mul__ F) (t_Ratio___rmul__ F) (hr.mono (by decide)) (hr.mono (by decide)) hg hg tk (b_Ratio___mul__ F) (b_Ratio___rmul__ F) rfl rfl op_bad)) (sn_ix rfl (sn_ix rfl (sn_var (i := 2)) sn_int) sn_int) sn_int) sna_nil))) sna_nil)))
    (sns_cons (sns_expr (sn_append (sn_var (i := 2)) (sna_cons (sn_tup (sna_cons (sn_bin (op_subS (op_own (c := 0) rfl F.op_Ratio_sub dec_sub (t_Ratio___sub__ F) (t_Ratio___rsub__ F) (hr.mono (by decide)) (hr.mono (by decide)) hg hg tk (b_Ratio___sub__ F) (b_Ratio___rsub__ F) rfl rfl op_bad)) sn_int (sn_ix rfl (sn_ix rfl (sn_var (i := 2)) sn_int) sn_int)) (sna_cons (sn_bin (op_subS (op_own (c := 0) rfl F.op_Ratio_sub dec_sub (t_Ratio___sub__ F) (t_Ratio___rsub__ F) (hr.mono (by decide)) (hr.mono (by decide)) hg hg tk (b_Ratio___sub__ F) (b_Ratio___rsub__ F) rfl rfl op_bad)) sn_int (sn_ix rfl (sn_ix rfl (sn_var (i := 2)) sn_int) sn_int)) sna_nil))) sna_nil)))
    (sns_cons (sns_set (i := 3) S.nd rfl (by first | exact Or.inl rfl | exact Or.inr rfl) (sn_callG (n := 1) (π := [0]) (t__law_whole F) (hr.mono (by decide)) hg tk rfl F.g__law_whole F.F__law_whole.kp (kb__law_whole_1 F) repD_nil cdS (ca_pos (sna_cons (sn_var (i := 1)) sna_nil) rfl)))
    (sns_cons (sns_for hp rfl (sni_any rfl (sn_sl rfl (sn_var (i := 2)) snp_none (snp_some sn_int))) (sng_name (i := 4) S.nd rfl (by first | exact Or.inl rfl | exact Or.inr rfl)) (sns_one (sns_if (SnW.t (snw_or (snt_not (snt_val (sn_cb (cs_all rfl) rfl F.b_all (by decide +kernel) (sna_cons (sn_frz (sn_lc (own := [("_law_other", 5)]) rfl S.nd (sni_any rfl (sn_frz (sn_var (i := 2)))) (blkOk_by (N := ["_law_script", "_law_pot_here", "_law_pairs", "_law_whole_here", "_law_one", "_law_other"]) (sc := defScope s_law) (by decide +kernel)) (fun _ _ _ _ _ => (sngw_name (i := 5) S.nd rfl (by first | exact Or.inl rfl | exact Or.inr rfl))) (fun _ _ _ _ _ => snts_nil) (fun _ _ _ _ _ => (sn_callG (n := 2) (π := [0, 1]) (t__law_two_right F) (hr.mono (by decide)) hg takes0 rfl F.g__law_two_right F.F__law_two_right.kp (kb__law_two_right_2 F) repD_nil cdP (ca_pos (sna_cons (sn_var (i := 4)) (sna_cons (sn_var (i := 5)) sna_nil)) rfl))))) sna_nil)))) (snw_or1 (snt_not (snt_val (sn_callG (n := 2) (π := [0, 1]) (t__law_whole_right F) (hr.mono (by decide)) hg tk rfl F.g__law_whole_right F.F__law_whole_right.kp (kb__law_whole_right_2 F) repD_nil cdP (ca_pos (sna_cons (sn_var (i := 4)) (sna_cons (sn_var (i := 3)) sna_nil)) rfl))))))) (sns_one (sns_ret sn_bl)) sns_nil)))
    (sns_one (sns_ret (sn_and (sn_callG (n := 2) (π := [0, 1]) (t__law_whole_right F) (hr.mono (by decide)) hg tk rfl F.g__law_whole_right F.F__law_whole_right.kp (kb__law_whole_right_2 F) repD_nil cdP (ca_pos (sna_cons (sn_ix rfl (sn_var (i := 2)) sn_int) (sna_cons (sn_var (i := 3)) sna_nil)) rfl)) (sn_and (sn_callG (n := 2) (π := [0, 1]) (t__law_whole_right F) (hr.mono (by decide)) hg tk rfl F.g__law_whole_right F.F__law_whole_right.kp (kb__law_whole_right_2 F) repD_nil cdP (ca_pos (sna_cons (sn_ix rfl (sn_var (i := 2)) sn_int) (sna_cons sn_int sna_nil)) rfl)) (sn_one (sn_callG (n := 2) (π := [0, 1]) (t__law_total_right F) (hr.mono (by decide)) hg tk rfl F.g__law_total_right F.F__law_total_right.kp (kb__law_total_right_2 F) repD_nil cdS (ca_pos (sna_cons (sn_var (i := 1)) (sna_cons (sn_frz (sn_var (i := 2))) sna_nil)) rfl)))))))))))))
end Sh.Law
namespace Sh.Law
open PySem PySem.Spec Sh
theorem e_is_integer (i : Int) (cs : Cs) : d_is_integer [.pv (.int i)] cs = .ok (.pv (.bl true)) ⟨[], cs⟩ := rfl
theorem e_told_pair_r (t b : Int) (cs : Cs) : d_told_pair [.pv (.ins 0 [.int t, .int b])] cs = .ok (.pv (.tup [.int t, .int b])) ⟨[], cs⟩ := rfl
theorem e_told_pair_i (t : Int) (cs : Cs) : d_told_pair [.pv (.int t)] cs = .ok (.pv (.tup [.int t, .int 1])) ⟨[], cs⟩ := rfl
theorem e_divisor (i j : Int) (cs : Cs) : d_divisor_of [.pv (.int i), .pv (.int j)] cs = .ok (.pv (.int (Nat.gcd i.natAbs j.natAbs : Nat))) ⟨[], cs⟩ := rfl
/-- the sign's divisor -/
def gd (t b : Int) : Int := if b < 0 then 0 - (Nat.gcd t.natAbs b.natAbs : Nat) else (Nat.gcd t.natAbs b.natAbs : Nat)
def Bd (n : Nat) (x : Int) : Prop := x.natAbs < 2 ^ n
theorem Bd.mono {n m : Nat} {x : Int} (h : Bd n x) (l : n ≤ m) : Bd m x := Nat.lt_of_lt_of_le h (Nat.pow_le_pow_right (by decide) l)
theorem Bd.log {n : Nat} {x : Int} (h : Bd n x) (hn : 0 < n) : x.natAbs.log2 < n := by
  by_cases z : x.natAbs = 0
  · rw [z]; simpa using hn
  · exact (Nat.log2_lt z).mpr h
theorem Bd.mul {n m : Nat} {x y : Int} (h : Bd n x) (h' : Bd m y) : Bd (n + m) (x * y) := by
  unfold Bd at *
  rw [Int.natAbs_mul, Nat.pow_add]
  exact Nat.mul_lt_mul'' h h'
theorem Bd.add {n : Nat} {x y : Int} (h : Bd n x) (h' : Bd n y) : Bd (n + 1) (x + y) := by
  unfold Bd at *
  have := Int.natAbs_add_le x y
  rw [Nat.pow_succ]; omega
theorem Bd.sub {n : Nat} {x y : Int} (h : Bd n x) (h' : Bd n y) : Bd (n + 1) (x - y) := by
  unfold Bd at *
  have := Int.natAbs_sub_le x y
  rw [Nat.pow_succ]; omega
theorem Bd.neg {n : Nat} {x : Int} (h : Bd n x) : Bd n (0 - x) := by
  unfold Bd at *
  omega
theorem gd_abs (t b : Int) : (gd t b).natAbs = Nat.gcd t.natAbs b.natAbs := by
  unfold gd
  split <;> omega
theorem gd_ne {t b : Int} (h : b ≠ 0) : gd t b ≠ 0 := by
  intro z
  have := gd_abs t b
  rw [z] at this
  have h2 : 0 < Nat.gcd t.natAbs b.natAbs := Nat.gcd_pos_of_pos_right _ (by omega)
  simp at this
  omega
theorem gd_bd {n : Nat} {t b : Int} (h : b ≠ 0) (hb : Bd n b) : Bd n (gd t b) := by
  unfold Bd at *
  rw [gd_abs]
  exact Nat.lt_of_le_of_lt (Nat.le_of_dvd (by omega) (Nat.gcd_dvd_right _ _)) hb
abbrev Rt (t b : Int) : SV := .pv (.ins 0 [.int t, .int b])
def Rp (t b : Int) : PV := .ins 0 [.int (t.fdiv (gd t b)), .int (b.fdiv (gd t b))]
abbrev R (t b : Int) : SV := .pv (Rp t b)
theorem e_mk {t b : Int} (h0 : b ≠ 0) (hb : Bd 8000 b) (e : StE) : mkIns 0 2 d_Ratio___init__ [.pv (.int t), .pv (.int b)] e = .ok (R t b) e := by
  have k : gd t b ≠ 0 ∧ (gd t b).natAbs.log2 < 9000 := ⟨gd_ne h0, ((gd_bd h0 hb).mono (by decide : 8000 ≤ 9000)).log (by decide)⟩
  have d0 : decide (b = 0) = false := decide_eq_false h0
  by_cases hb : b < 0
  · have hg : gd t b = 0 - (Nat.gcd t.natAbs b.natAbs : Nat) := if_pos hb
    have d1 : decide (b < 0) = true := decide_eq_true hb
    simp only [R, Rp, Rt]
    rw [hg] at k ⊢
    simp only [mkIns, d_Ratio___init__, e_is_integer, e_divisor, pvs, Option.map_some, Option.map_none, runB, List.map_cons, List.map_nil, List.length_cons, List.length_nil, List.cons_append, List.nil_append, List.append_nil, List.getElem?_cons_zero, List.getElem?_cons_succ, List.replicate_succ, List.replicate_zero, List.set_cons_zero, List.set_cons_succ, sSeq, sIf, thenS, bindE, tNotD, tB, dCall, callP, callS, callN, dVar, dCons, dNil, retE, badE, pick, List.filterMap_cons, List.filterMap_nil, sNil, tOrD, tAndD, dAndV, dOrV, dNotV, dBin, oEqP, plainEq, dC, rBl, rI, sSet, setSl, sRet, sRetN, sDrop, sFld, o2I, oAddI, oSub, oMulI, oDiv, oMod, oLt, oLe, oGt, oGe, oAddS, oAddL, oOwn, oEqO, oNeO, okEq, okRight, dFlip, dIf, dFld, dProp, dMethG, bad2, mkTup, mkLst, dIsi, ansOf, dFrz, frz, oIx, ixOf, oGcd, oAbs, oInt, oMax2, oMin2, sPar, sPar3, sAsg, gTupD, gsCons, gsNil, gSet, Bool.false_eq_true, ite_false, ite_true, if_true, if_false, reduceIte, Bool.not_true, Bool.not_false, beq_self_eq_true, and_self, and_true, true_and, Nat.reduceAdd, Nat.reduceSub, Nat.reduceEqDiff, Nat.reduceLT, Nat.reduceLeDiff, Nat.sub_self, Nat.zero_add, List.take_zero, decide_true, decide_false, aisi_int, aisi_bool, aisi_Ratio, aisi_list_tuple, Option.some.injEq, bad1, oNegI, oNegO, dJoin, dFmt, oStr, pSome, pNone, slS, oPow, oOwn1, callT, d0, d1, if_pos k]
  · have hg : gd t b = (Nat.gcd t.natAbs b.natAbs : Nat) := if_neg hb
    have d1 : decide (b < 0) = false := decide_eq_false hb
    simp only [R, Rp, Rt]
    rw [hg] at k ⊢
    simp only [mkIns, d_Ratio___init__, e_is_integer, e_divisor, pvs, Option.map_some, Option.map_none, runB, List.map_cons, List.map_nil, List.length_cons, List.length_nil, List.cons_append, List.nil_append, List.append_nil, List.getElem?_cons_zero, List.getElem?_cons_succ, List.replicate_succ, List.replicate_zero, List.set_cons_zero, List.set_cons_succ, sSeq, sIf, thenS, bindE, tNotD, tB, dCall, callP, callS, callN, dVar, dCons, dNil, retE, badE, pick, List.filterMap_cons, List.filterMap_nil, sNil, tOrD, tAndD, dAndV, dOrV, dNotV, dBin, oEqP, plainEq, dC, rBl, rI, sSet, setSl, sRet, sRetN, sDrop, sFld, o2I, oAddI, oSub, oMulI, oDiv, oMod, oLt, oLe, oGt, oGe, oAddS, oAddL, oOwn, oEqO, oNeO, okEq, okRight, dFlip, dIf, dFld, dProp, dMethG, bad2, mkTup, mkLst, dIsi, ansOf, dFrz, frz, oIx, ixOf, oGcd, oAbs, oInt, oMax2, oMin2, sPar, sPar3, sAsg, gTupD, gsCons, gsNil, gSet, Bool.false_eq_true, ite_false, ite_true, if_true, if_false, reduceIte, Bool.not_true, Bool.not_false, beq_self_eq_true, and_self, and_true, true_and, Nat.reduceAdd, Nat.reduceSub, Nat.reduceEqDiff, Nat.reduceLT, Nat.reduceLeDiff, Nat.sub_self, Nat.zero_add, List.take_zero, decide_true, decide_false, aisi_int, aisi_bool, aisi_Ratio, aisi_list_tuple, Option.some.injEq, bad1, oNegI, oNegO, dJoin, dFmt, oStr, pSome, pNone, slS, oPow, oOwn1, callT, d0, d1, if_pos k]
theorem lg {n m : Nat} {x y : Int} (h : Bd n x) (h' : Bd m y) (hn : n ≤ 9000 := by decide) (hm : m ≤ 9000 := by decide) : x.natAbs.log2 + y.natAbs.log2 < 1000000 := by
  have h1 := (h.mono (Nat.le_trans hn (by decide : 9000 ≤ 9001))).log (by decide)
  have h2 := (h'.mono (Nat.le_trans hm (by decide : 9000 ≤ 9001))).log (by decide)
  omega
def Pr2 (y : PV) (c d : Int) : Prop := ∀ cs, d_told_pair [.pv y] cs = .ok (.pv (.tup [.int c, .int d])) ⟨[], cs⟩
theorem pr_r (c d : Int) : Pr2 (.ins 0 [.int c, .int d]) c d := fun _ => rfl
theorem pr_i (c : Int) : Pr2 (.int c) c 1 := fun _ => rfl
section
variable {a b c d : Int} {y : PV} (h : Pr2 y c d) (ha : Bd 2000 a) (hb : Bd 2000 b) (hc : Bd 2000 c) (hd : Bd 2000 d) (hn : b * d ≠ 0)
include h ha hb hc hd hn
theorem e_add (cs : Cs) : d_Ratio___add__ [Rt a b, .pv y] cs = .ok (R (a * d + c * b) (b * d)) ⟨[], cs⟩ := by
  simp only [d_Ratio___add__, Rt, h _, pvs, Option.map_some, Option.map_none, runB, List.map_cons, List.map_nil, List.length_cons, List.length_nil, List.cons_append, List.nil_append, List.append_nil, List.getElem?_cons_zero, List.getElem?_cons_succ, List.replicate_succ, List.replicate_zero, List.set_cons_zero, List.set_cons_succ, sSeq, sIf, thenS, bindE, tNotD, tB, dCall, callP, callS, callN, dVar, dCons, dNil, retE, badE, pick, List.filterMap_cons, List.filterMap_nil, sNil, tOrD, tAndD, dAndV, dOrV, dNotV, dBin, oEqP, plainEq, dC, rBl, rI, sSet, setSl, sRet, sRetN, sDrop, sFld, o2I, oAddI, oSub, oMulI, oDiv, oMod, oLt, oLe, oGt, oGe, oAddS, oAddL, oOwn, oEqO, oNeO, okEq, okRight, dFlip, dIf, dFld, dProp, dMethG, bad2, mkTup, mkLst, dIsi, ansOf, dFrz, frz, oIx, ixOf, oGcd, oAbs, oInt, oMax2, oMin2, sPar, sPar3, sAsg, gTupD, gsCons, gsNil, gSet, Bool.false_eq_true, ite_false, ite_true, if_true, if_false, reduceIte, Bool.not_true, Bool.not_false, beq_self_eq_true, and_self, and_true, true_and, Nat.reduceAdd, Nat.reduceSub, Nat.reduceEqDiff, Nat.reduceLT, Nat.reduceLeDiff, Nat.sub_self, Nat.zero_add, List.take_zero, decide_true, decide_false, aisi_int, aisi_bool, aisi_Ratio, aisi_list_tuple, Option.some.injEq, bad1, oNegI, oNegO, dJoin, dFmt, oStr, pSome, pNone, slS, oPow, oOwn1, callT, lg ha hd, lg hc hb, lg hb hd, e_mk hn ((hb.mul hd).mono (by decide : 2000 + 2000 ≤ 8000))]
theorem e_radd (cs : Cs) : d_Ratio___radd__ [Rt a b, .pv y] cs = .ok (R (a * d + c * b) (b * d)) ⟨[], cs⟩ := by
  simp only [d_Ratio___radd__, Rt, h _, pvs, Option.map_some, Option.map_none, runB, List.map_cons, List.map_nil, List.length_cons, List.length_nil, List.cons_append, List.nil_append, List.append_nil, List.getElem?_cons_zero, List.getElem?_cons_succ, List.replicate_succ, List.replicate_zero, List.set_cons_zero, List.set_cons_succ, sSeq, sIf, thenS, bindE, tNotD, tB, dCall, callP, callS, callN, dVar, dCons, dNil, retE, badE, pick, List.filterMap_cons, List.filterMap_nil, sNil, tOrD, tAndD, dAndV, dOrV, dNotV, dBin, oEqP, plainEq, dC, rBl, rI, sSet, setSl, sRet, sRetN, sDrop, sFld, o2I, oAddI, oSub, oMulI, oDiv, oMod, oLt, oLe, oGt, oGe, oAddS, oAddL, oOwn, oEqO, oNeO, okEq, okRight, dFlip, dIf, dFld, dProp, dMethG, bad2, mkTup, mkLst, dIsi, ansOf, dFrz, frz, oIx, ixOf, oGcd, oAbs, oInt, oMax2, oMin2, sPar, sPar3, sAsg, gTupD, gsCons, gsNil, gSet, Bool.false_eq_true, ite_false, ite_true, if_true, if_false, reduceIte, Bool.not_true, Bool.not_false, beq_self_eq_true, and_self, and_true, true_and, Nat.reduceAdd, Nat.reduceSub, Nat.reduceEqDiff, Nat.reduceLT, Nat.reduceLeDiff, Nat.sub_self, Nat.zero_add, List.take_zero, decide_true, decide_false, aisi_int, aisi_bool, aisi_Ratio, aisi_list_tuple, Option.some.injEq, bad1, oNegI, oNegO, dJoin, dFmt, oStr, pSome, pNone, slS, oPow, oOwn1, callT, lg ha hd, lg hc hb, lg hb hd, e_mk hn ((hb.mul hd).mono (by decide : 2000 + 2000 ≤ 8000))]
theorem e_sub (cs : Cs) : d_Ratio___sub__ [Rt a b, .pv y] cs = .ok (R (a * d - c * b) (b * d)) ⟨[], cs⟩ := by
  simp only [d_Ratio___sub__, Rt, h _, pvs, Option.map_some, Option.map_none, runB, List.map_cons, List.map_nil, List.length_cons, List.length_nil, List.cons_append, List.nil_append, List.append_nil, List.getElem?_cons_zero, List.getElem?_cons_succ, List.replicate_succ, List.replicate_zero, List.set_cons_zero, List.set_cons_succ, sSeq, sIf, thenS, bindE, tNotD, tB, dCall, callP, callS, callN, dVar, dCons, dNil, retE, badE, pick, List.filterMap_cons, List.filterMap_nil, sNil, tOrD, tAndD, dAndV, dOrV, dNotV, dBin, oEqP, plainEq, dC, rBl, rI, sSet, setSl, sRet, sRetN, sDrop, sFld, o2I, oAddI, oSub, oMulI, oDiv, oMod, oLt, oLe, oGt, oGe, oAddS, oAddL, oOwn, oEqO, oNeO, okEq, okRight, dFlip, dIf, dFld, dProp, dMethG, bad2, mkTup, mkLst, dIsi, ansOf, dFrz, frz, oIx, ixOf, oGcd, oAbs, oInt, oMax2, oMin2, sPar, sPar3, sAsg, gTupD, gsCons, gsNil, gSet, Bool.false_eq_true, ite_false, ite_true, if_true, if_false, reduceIte, Bool.not_true, Bool.not_false, beq_self_eq_true, and_self, and_true, true_and, Nat.reduceAdd, Nat.reduceSub, Nat.reduceEqDiff, Nat.reduceLT, Nat.reduceLeDiff, Nat.sub_self, Nat.zero_add, List.take_zero, decide_true, decide_false, aisi_int, aisi_bool, aisi_Ratio, aisi_list_tuple, Option.some.injEq, bad1, oNegI, oNegO, dJoin, dFmt, oStr, pSome, pNone, slS, oPow, oOwn1, callT, lg ha hd, lg hc hb, lg hb hd, e_mk hn ((hb.mul hd).mono (by decide : 2000 + 2000 ≤ 8000))]
theorem e_rsub (cs : Cs) : d_Ratio___rsub__ [Rt a b, .pv y] cs = .ok (R (c * b - a * d) (b * d)) ⟨[], cs⟩ := by
  simp only [d_Ratio___rsub__, Rt, h _, pvs, Option.map_some, Option.map_none, runB, List.map_cons, List.map_nil, List.length_cons, List.length_nil, List.cons_append, List.nil_append, List.append_nil, List.getElem?_cons_zero, List.getElem?_cons_succ, List.replicate_succ, List.replicate_zero, List.set_cons_zero, List.set_cons_succ, sSeq, sIf, thenS, bindE, tNotD, tB, dCall, callP, callS, callN, dVar, dCons, dNil, retE, badE, pick, List.filterMap_cons, List.filterMap_nil, sNil, tOrD, tAndD, dAndV, dOrV, dNotV, dBin, oEqP, plainEq, dC, rBl, rI, sSet, setSl, sRet, sRetN, sDrop, sFld, o2I, oAddI, oSub, oMulI, oDiv, oMod, oLt, oLe, oGt, oGe, oAddS, oAddL, oOwn, oEqO, oNeO, okEq, okRight, dFlip, dIf, dFld, dProp, dMethG, bad2, mkTup, mkLst, dIsi, ansOf, dFrz, frz, oIx, ixOf, oGcd, oAbs, oInt, oMax2, oMin2, sPar, sPar3, sAsg, gTupD, gsCons, gsNil, gSet, Bool.false_eq_true, ite_false, ite_true, if_true, if_false, reduceIte, Bool.not_true, Bool.not_false, beq_self_eq_true, and_self, and_true, true_and, Nat.reduceAdd, Nat.reduceSub, Nat.reduceEqDiff, Nat.reduceLT, Nat.reduceLeDiff, Nat.sub_self, Nat.zero_add, List.take_zero, decide_true, decide_false, aisi_int, aisi_bool, aisi_Ratio, aisi_list_tuple, Option.some.injEq, bad1, oNegI, oNegO, dJoin, dFmt, oStr, pSome, pNone, slS, oPow, oOwn1, callT, lg ha hd, lg hc hb, lg hb hd, e_mk hn ((hb.mul hd).mono (by decide : 2000 + 2000 ≤ 8000))]
theorem e_mul (cs : Cs) : d_Ratio___mul__ [Rt a b, .pv y] cs = .ok (R (a * c) (b * d)) ⟨[], cs⟩ := by
  simp only [d_Ratio___mul__, Rt, h _, pvs, Option.map_some, Option.map_none, runB, List.map_cons, List.map_nil, List.length_cons, List.length_nil, List.cons_append, List.nil_append, List.append_nil, List.getElem?_cons_zero, List.getElem?_cons_succ, List.replicate_succ, List.replicate_zero, List.set_cons_zero, List.set_cons_succ, sSeq, sIf, thenS, bindE, tNotD, tB, dCall, callP, callS, callN, dVar, dCons, dNil, retE, badE, pick, List.filterMap_cons, List.filterMap_nil, sNil, tOrD, tAndD, dAndV, dOrV, dNotV, dBin, oEqP, plainEq, dC, rBl, rI, sSet, setSl, sRet, sRetN, sDrop, sFld, o2I, oAddI, oSub, oMulI, oDiv, oMod, oLt, oLe, oGt, oGe, oAddS, oAddL, oOwn, oEqO, oNeO, okEq, okRight, dFlip, dIf, dFld, dProp, dMethG, bad2, mkTup, mkLst, dIsi, ansOf, dFrz, frz, oIx, ixOf, oGcd, oAbs, oInt, oMax2, oMin2, sPar, sPar3, sAsg, gTupD, gsCons, gsNil, gSet, Bool.false_eq_true, ite_false, ite_true, if_true, if_false, reduceIte, Bool.not_true, Bool.not_false, beq_self_eq_true, and_self, and_true, true_and, Nat.reduceAdd, Nat.reduceSub, Nat.reduceEqDiff, Nat.reduceLT, Nat.reduceLeDiff, Nat.sub_self, Nat.zero_add, List.take_zero, decide_true, decide_false, aisi_int, aisi_bool, aisi_Ratio, aisi_list_tuple, Option.some.injEq, bad1, oNegI, oNegO, dJoin, dFmt, oStr, pSome, pNone, slS, oPow, oOwn1, callT, lg ha hc, lg hb hd, e_mk hn ((hb.mul hd).mono (by decide : 2000 + 2000 ≤ 8000))]
theorem e_rmul (cs : Cs) : d_Ratio___rmul__ [Rt a b, .pv y] cs = .ok (R (a * c) (b * d)) ⟨[], cs⟩ := by
  simp only [d_Ratio___rmul__, Rt, h _, pvs, Option.map_some, Option.map_none, runB, List.map_cons, List.map_nil, List.length_cons, List.length_nil, List.cons_append, List.nil_append, List.append_nil, List.getElem?_cons_zero, List.getElem?_cons_succ, List.replicate_succ, List.replicate_zero, List.set_cons_zero, List.set_cons_succ, sSeq, sIf, thenS, bindE, tNotD, tB, dCall, callP, callS, callN, dVar, dCons, dNil, retE, badE, pick, List.filterMap_cons, List.filterMap_nil, sNil, tOrD, tAndD, dAndV, dOrV, dNotV, dBin, oEqP, plainEq, dC, rBl, rI, sSet, setSl, sRet, sRetN, sDrop, sFld, o2I, oAddI, oSub, oMulI, oDiv, oMod, oLt, oLe, oGt, oGe, oAddS, oAddL, oOwn, oEqO, oNeO, okEq, okRight, dFlip, dIf, dFld, dProp, dMethG, bad2, mkTup, mkLst, dIsi, ansOf, dFrz, frz, oIx, ixOf, oGcd, oAbs, oInt, oMax2, oMin2, sPar, sPar3, sAsg, gTupD, gsCons, gsNil, gSet, Bool.false_eq_true, ite_false, ite_true, if_true, if_false, reduceIte, Bool.not_true, Bool.not_false, beq_self_eq_true, and_self, and_true, true_and, Nat.reduceAdd, Nat.reduceSub, Nat.reduceEqDiff, Nat.reduceLT, Nat.reduceLeDiff, Nat.sub_self, Nat.zero_add, List.take_zero, decide_true, decide_false, aisi_int, aisi_bool, aisi_Ratio, aisi_list_tuple, Option.some.injEq, bad1, oNegI, oNegO, dJoin, dFmt, oStr, pSome, pNone, slS, oPow, oOwn1, callT, lg ha hc, lg hb hd, e_mk hn ((hb.mul hd).mono (by decide : 2000 + 2000 ≤ 8000))]
theorem e_below (cs : Cs) : d_Ratio_is_below [Rt a b, .pv y] cs = .ok (.pv (.bl (decide (a * d < c * b)))) ⟨[], cs⟩ := by
  simp only [d_Ratio_is_below, Rt, h _, pvs, Option.map_some, Option.map_none, runB, List.map_cons, List.map_nil, List.length_cons, List.length_nil, List.cons_append, List.nil_append, List.append_nil, List.getElem?_cons_zero, List.getElem?_cons_succ, List.replicate_succ, List.replicate_zero, List.set_cons_zero, List.set_cons_succ, sSeq, sIf, thenS, bindE, tNotD, tB, dCall, callP, callS, callN, dVar, dCons, dNil, retE, badE, pick, List.filterMap_cons, List.filterMap_nil, sNil, tOrD, tAndD, dAndV, dOrV, dNotV, dBin, oEqP, plainEq, dC, rBl, rI, sSet, setSl, sRet, sRetN, sDrop, sFld, o2I, oAddI, oSub, oMulI, oDiv, oMod, oLt, oLe, oGt, oGe, oAddS, oAddL, oOwn, oEqO, oNeO, okEq, okRight, dFlip, dIf, dFld, dProp, dMethG, bad2, mkTup, mkLst, dIsi, ansOf, dFrz, frz, oIx, ixOf, oGcd, oAbs, oInt, oMax2, oMin2, sPar, sPar3, sAsg, gTupD, gsCons, gsNil, gSet, Bool.false_eq_true, ite_false, ite_true, if_true, if_false, reduceIte, Bool.not_true, Bool.not_false, beq_self_eq_true, and_self, and_true, true_and, Nat.reduceAdd, Nat.reduceSub, Nat.reduceEqDiff, Nat.reduceLT, Nat.reduceLeDiff, Nat.sub_self, Nat.zero_add, List.take_zero, decide_true, decide_false, aisi_int, aisi_bool, aisi_Ratio, aisi_list_tuple, Option.some.injEq, bad1, oNegI, oNegO, dJoin, dFmt, oStr, pSome, pNone, slS, oPow, oOwn1, callT, lg ha hd, lg hc hb]
theorem e_atmost (cs : Cs) : d_Ratio_is_at_most [Rt a b, .pv y] cs = .ok (.pv (.bl (decide (a * d ≤ c * b)))) ⟨[], cs⟩ := by
  simp only [d_Ratio_is_at_most, Rt, h _, pvs, Option.map_some, Option.map_none, runB, List.map_cons, List.map_nil, List.length_cons, List.length_nil, List.cons_append, List.nil_append, List.append_nil, List.getElem?_cons_zero, List.getElem?_cons_succ, List.replicate_succ, List.replicate_zero, List.set_cons_zero, List.set_cons_succ, sSeq, sIf, thenS, bindE, tNotD, tB, dCall, callP, callS, callN, dVar, dCons, dNil, retE, badE, pick, List.filterMap_cons, List.filterMap_nil, sNil, tOrD, tAndD, dAndV, dOrV, dNotV, dBin, oEqP, plainEq, dC, rBl, rI, sSet, setSl, sRet, sRetN, sDrop, sFld, o2I, oAddI, oSub, oMulI, oDiv, oMod, oLt, oLe, oGt, oGe, oAddS, oAddL, oOwn, oEqO, oNeO, okEq, okRight, dFlip, dIf, dFld, dProp, dMethG, bad2, mkTup, mkLst, dIsi, ansOf, dFrz, frz, oIx, ixOf, oGcd, oAbs, oInt, oMax2, oMin2, sPar, sPar3, sAsg, gTupD, gsCons, gsNil, gSet, Bool.false_eq_true, ite_false, ite_true, if_true, if_false, reduceIte, Bool.not_true, Bool.not_false, beq_self_eq_true, and_self, and_true, true_and, Nat.reduceAdd, Nat.reduceSub, Nat.reduceEqDiff, Nat.reduceLT, Nat.reduceLeDiff, Nat.sub_self, Nat.zero_add, List.take_zero, decide_true, decide_false, aisi_int, aisi_bool, aisi_Ratio, aisi_list_tuple, Option.some.injEq, bad1, oNegI, oNegO, dJoin, dFmt, oStr, pSome, pNone, slS, oPow, oOwn1, callT, lg ha hd, lg hc hb]
end
theorem e_over {a b c d : Int} {y : PV} (h : Pr2 y c d) (ha : Bd 2000 a) (hb : Bd 2000 b) (hc : Bd 2000 c) (hd : Bd 2000 d) (hz : c ≠ 0) (hn : b * c ≠ 0) (cs : Cs) : d_Ratio_over [Rt a b, .pv y] cs = .ok (R (a * d) (b * c)) ⟨[], cs⟩ := by
  have d0 : decide (c = 0) = false := decide_eq_false hz
  simp only [d_Ratio_over, Rt, h _, pvs, Option.map_some, Option.map_none, runB, List.map_cons, List.map_nil, List.length_cons, List.length_nil, List.cons_append, List.nil_append, List.append_nil, List.getElem?_cons_zero, List.getElem?_cons_succ, List.replicate_succ, List.replicate_zero, List.set_cons_zero, List.set_cons_succ, sSeq, sIf, thenS, bindE, tNotD, tB, dCall, callP, callS, callN, dVar, dCons, dNil, retE, badE, pick, List.filterMap_cons, List.filterMap_nil, sNil, tOrD, tAndD, dAndV, dOrV, dNotV, dBin, oEqP, plainEq, dC, rBl, rI, sSet, setSl, sRet, sRetN, sDrop, sFld, o2I, oAddI, oSub, oMulI, oDiv, oMod, oLt, oLe, oGt, oGe, oAddS, oAddL, oOwn, oEqO, oNeO, okEq, okRight, dFlip, dIf, dFld, dProp, dMethG, bad2, mkTup, mkLst, dIsi, ansOf, dFrz, frz, oIx, ixOf, oGcd, oAbs, oInt, oMax2, oMin2, sPar, sPar3, sAsg, gTupD, gsCons, gsNil, gSet, Bool.false_eq_true, ite_false, ite_true, if_true, if_false, reduceIte, Bool.not_true, Bool.not_false, beq_self_eq_true, and_self, and_true, true_and, Nat.reduceAdd, Nat.reduceSub, Nat.reduceEqDiff, Nat.reduceLT, Nat.reduceLeDiff, Nat.sub_self, Nat.zero_add, List.take_zero, decide_true, decide_false, aisi_int, aisi_bool, aisi_Ratio, aisi_list_tuple, Option.some.injEq, bad1, oNegI, oNegO, dJoin, dFmt, oStr, pSome, pNone, slS, oPow, oOwn1, callT, d0, lg ha hd, lg hb hc, e_mk hn ((hb.mul hc).mono (by decide : 2000 + 2000 ≤ 8000))]
theorem e_neg {a b : Int} (hb : Bd 2000 b) (hn : b ≠ 0) (cs : Cs) : d_Ratio___neg__ [Rt a b] cs = .ok (R (0 - a) b) ⟨[], cs⟩ := by
  simp only [d_Ratio___neg__, Rt, pvs, Option.map_some, Option.map_none, runB, List.map_cons, List.map_nil, List.length_cons, List.length_nil, List.cons_append, List.nil_append, List.append_nil, List.getElem?_cons_zero, List.getElem?_cons_succ, List.replicate_succ, List.replicate_zero, List.set_cons_zero, List.set_cons_succ, sSeq, sIf, thenS, bindE, tNotD, tB, dCall, callP, callS, callN, dVar, dCons, dNil, retE, badE, pick, List.filterMap_cons, List.filterMap_nil, sNil, tOrD, tAndD, dAndV, dOrV, dNotV, dBin, oEqP, plainEq, dC, rBl, rI, sSet, setSl, sRet, sRetN, sDrop, sFld, o2I, oAddI, oSub, oMulI, oDiv, oMod, oLt, oLe, oGt, oGe, oAddS, oAddL, oOwn, oEqO, oNeO, okEq, okRight, dFlip, dIf, dFld, dProp, dMethG, bad2, mkTup, mkLst, dIsi, ansOf, dFrz, frz, oIx, ixOf, oGcd, oAbs, oInt, oMax2, oMin2, sPar, sPar3, sAsg, gTupD, gsCons, gsNil, gSet, Bool.false_eq_true, ite_false, ite_true, if_true, if_false, reduceIte, Bool.not_true, Bool.not_false, beq_self_eq_true, and_self, and_true, true_and, Nat.reduceAdd, Nat.reduceSub, Nat.reduceEqDiff, Nat.reduceLT, Nat.reduceLeDiff, Nat.sub_self, Nat.zero_add, List.take_zero, decide_true, decide_false, aisi_int, aisi_bool, aisi_Ratio, aisi_list_tuple, Option.some.injEq, bad1, oNegI, oNegO, dJoin, dFmt, oStr, pSome, pNone, slS, oPow, oOwn1, callT, e_mk hn (hb.mono (by decide : 2000 ≤ 8000))]
theorem e_size {a b : Int} (hb : Bd 2000 b) (hn : b ≠ 0) (cs : Cs) : d_Ratio_size [Rt a b] cs = .ok (R (if a < 0 then -a else a) b) ⟨[], cs⟩ := by
  simp only [d_Ratio_size, Rt, pvs, Option.map_some, Option.map_none, runB, List.map_cons, List.map_nil, List.length_cons, List.length_nil, List.cons_append, List.nil_append, List.append_nil, List.getElem?_cons_zero, List.getElem?_cons_succ, List.replicate_succ, List.replicate_zero, List.set_cons_zero, List.set_cons_succ, sSeq, sIf, thenS, bindE, tNotD, tB, dCall, callP, callS, callN, dVar, dCons, dNil, retE, badE, pick, List.filterMap_cons, List.filterMap_nil, sNil, tOrD, tAndD, dAndV, dOrV, dNotV, dBin, oEqP, plainEq, dC, rBl, rI, sSet, setSl, sRet, sRetN, sDrop, sFld, o2I, oAddI, oSub, oMulI, oDiv, oMod, oLt, oLe, oGt, oGe, oAddS, oAddL, oOwn, oEqO, oNeO, okEq, okRight, dFlip, dIf, dFld, dProp, dMethG, bad2, mkTup, mkLst, dIsi, ansOf, dFrz, frz, oIx, ixOf, oGcd, oAbs, oInt, oMax2, oMin2, sPar, sPar3, sAsg, gTupD, gsCons, gsNil, gSet, Bool.false_eq_true, ite_false, ite_true, if_true, if_false, reduceIte, Bool.not_true, Bool.not_false, beq_self_eq_true, and_self, and_true, true_and, Nat.reduceAdd, Nat.reduceSub, Nat.reduceEqDiff, Nat.reduceLT, Nat.reduceLeDiff, Nat.sub_self, Nat.zero_add, List.take_zero, decide_true, decide_false, aisi_int, aisi_bool, aisi_Ratio, aisi_list_tuple, Option.some.injEq, bad1, oNegI, oNegO, dJoin, dFmt, oStr, pSome, pNone, slS, oPow, oOwn1, callT, e_mk hn (hb.mono (by decide : 2000 ≤ 8000))]
theorem e_top (a b : Int) (cs : Cs) : d_Ratio_top [Rt a b] cs = .ok (.pv (.int a)) ⟨[], cs⟩ := rfl
theorem e_bottom (a b : Int) (cs : Cs) : d_Ratio_bottom [Rt a b] cs = .ok (.pv (.int b)) ⟨[], cs⟩ := rfl
theorem e_sign (a b : Int) (cs : Cs) : d_Ratio_sign [Rt a b] cs = .ok (.pv (.int ((if decide (0 < a) = true then 1 else 0) - (if decide (a < 0) = true then 1 else 0)))) ⟨[], cs⟩ := rfl
theorem e_whole (a b : Int) (cs : Cs) : d_Ratio_is_whole [Rt a b] cs = .ok (.pv (.bl (decide (b = 1)))) ⟨[], cs⟩ := rfl
theorem e_eq (a b c d : Int) (cs : Cs) : d_Ratio___eq__ [Rt a b, Rt c d] cs = .ok (.pv (.bl (decide (a = c) && decide (b = d)))) ⟨[], cs⟩ := by
  by_cases h : a = c
  · have d0 : decide (a = c) = true := decide_eq_true h
    simp only [d_Ratio___eq__, Rt, pvs, Option.map_some, Option.map_none, runB, List.map_cons, List.map_nil, List.length_cons, List.length_nil, List.cons_append, List.nil_append, List.append_nil, List.getElem?_cons_zero, List.getElem?_cons_succ, List.replicate_succ, List.replicate_zero, List.set_cons_zero, List.set_cons_succ, sSeq, sIf, thenS, bindE, tNotD, tB, dCall, callP, callS, callN, dVar, dCons, dNil, retE, badE, pick, List.filterMap_cons, List.filterMap_nil, sNil, tOrD, tAndD, dAndV, dOrV, dNotV, dBin, oEqP, plainEq, dC, rBl, rI, sSet, setSl, sRet, sRetN, sDrop, sFld, o2I, oAddI, oSub, oMulI, oDiv, oMod, oLt, oLe, oGt, oGe, oAddS, oAddL, oOwn, oEqO, oNeO, okEq, okRight, dFlip, dIf, dFld, dProp, dMethG, bad2, mkTup, mkLst, dIsi, ansOf, dFrz, frz, oIx, ixOf, oGcd, oAbs, oInt, oMax2, oMin2, sPar, sPar3, sAsg, gTupD, gsCons, gsNil, gSet, Bool.false_eq_true, ite_false, ite_true, if_true, if_false, reduceIte, Bool.not_true, Bool.not_false, beq_self_eq_true, and_self, and_true, true_and, Nat.reduceAdd, Nat.reduceSub, Nat.reduceEqDiff, Nat.reduceLT, Nat.reduceLeDiff, Nat.sub_self, Nat.zero_add, List.take_zero, decide_true, decide_false, aisi_int, aisi_bool, aisi_Ratio, aisi_list_tuple, Option.some.injEq, bad1, oNegI, oNegO, dJoin, dFmt, oStr, pSome, pNone, slS, oPow, oOwn1, callT, d0, Bool.true_and]
  · have d0 : decide (a = c) = false := decide_eq_false h
    simp only [d_Ratio___eq__, Rt, pvs, Option.map_some, Option.map_none, runB, List.map_cons, List.map_nil, List.length_cons, List.length_nil, List.cons_append, List.nil_append, List.append_nil, List.getElem?_cons_zero, List.getElem?_cons_succ, List.replicate_succ, List.replicate_zero, List.set_cons_zero, List.set_cons_succ, sSeq, sIf, thenS, bindE, tNotD, tB, dCall, callP, callS, callN, dVar, dCons, dNil, retE, badE, pick, List.filterMap_cons, List.filterMap_nil, sNil, tOrD, tAndD, dAndV, dOrV, dNotV, dBin, oEqP, plainEq, dC, rBl, rI, sSet, setSl, sRet, sRetN, sDrop, sFld, o2I, oAddI, oSub, oMulI, oDiv, oMod, oLt, oLe, oGt, oGe, oAddS, oAddL, oOwn, oEqO, oNeO, okEq, okRight, dFlip, dIf, dFld, dProp, dMethG, bad2, mkTup, mkLst, dIsi, ansOf, dFrz, frz, oIx, ixOf, oGcd, oAbs, oInt, oMax2, oMin2, sPar, sPar3, sAsg, gTupD, gsCons, gsNil, gSet, Bool.false_eq_true, ite_false, ite_true, if_true, if_false, reduceIte, Bool.not_true, Bool.not_false, beq_self_eq_true, and_self, and_true, true_and, Nat.reduceAdd, Nat.reduceSub, Nat.reduceEqDiff, Nat.reduceLT, Nat.reduceLeDiff, Nat.sub_self, Nat.zero_add, List.take_zero, decide_true, decide_false, aisi_int, aisi_bool, aisi_Ratio, aisi_list_tuple, Option.some.injEq, bad1, oNegI, oNegO, dJoin, dFmt, oStr, pSome, pNone, slS, oPow, oOwn1, callT, d0, Bool.false_and]
theorem e_eqi (a b c : Int) (cs : Cs) : d_Ratio___eq__ [Rt a b, .pv (.int c)] cs = .ok (.pv (.bl false)) ⟨[], cs⟩ := rfl
end Sh.Law
namespace Sh.Law
open PySem PySem.Spec Sh L2
/-! # digits -/
def D (m : Nat) : List Nat := (Nat.toDigits 10 m).map Char.toNat
def tx (l : List Nat) : Str := ⟨l.toArray⟩
theorem tx_app (a b : List Nat) : tx a ++ tx b = tx (a ++ b) := by
  show Str.mk (a.toArray ++ b.toArray) = Str.mk (a ++ b).toArray
  simp
theorem tx_len (a : List Nat) : (tx a).length = a.length := by
  show a.toArray.size = a.length
  simp
theorem tx_nil : ("" : Str) = tx [] := by first | rfl | decide +kernel
theorem tx_empty : Str.empty = tx [] := by first | rfl | decide +kernel
theorem tx_minus : ("-" : Str) = tx [45] := by first | rfl | decide +kernel
theorem txt_nat (m : Nat) : (toString ((m : Nat) : Int) : Str) = tx (D m) := PyProof.Rows.text_ofNat m
theorem txt_neg (m : Nat) (h : 0 < m) : (toString (-((m : Nat) : Int)) : Str) = tx (45 :: D m) := by
  obtain ⟨k, rfl⟩ : ∃ k, m = k + 1 := ⟨m - 1, by omega⟩
  have e : -(((k + 1 : Nat)) : Int) = Int.negSucc k := rfl
  rw [e]
  have : toString (Int.negSucc k) = "-" ++ toString (k + 1) := rfl
  show Str.ofString (toString (Int.negSucc k)) = _
  rw [this, Str.ofString_eq_toList]
  have h2 := txt_nat (k + 1)
  have h3 : Str.ofString (toString (((k + 1 : Nat)) : Int)) = tx (D (k + 1)) := h2
  have h4 : toString (((k + 1 : Nat)) : Int) = toString (k + 1) := rfl
  rw [h4, Str.ofString_eq_toList] at h3
  unfold tx at *
  have h5 := congrArg (fun z : Str => z.cps.toList) h3
  simp at h5
  simp [h5]
theorem D_len {k m : Nat} (hk : 1 ≤ k) (h : m < 10 ^ k) : (D m).length ≤ k := by
  unfold D
  rw [List.length_map]
  exact (Nat.length_toDigits_le_iff (by decide) hk).mpr h
/-- the last k signs -/
theorem D_split : ∀ (k r : Nat), r < 10 ^ k → ∃ w : List Nat, w.length = k ∧ ∀ q : Nat, 0 < q → D (q * 10 ^ k + r) = D q ++ w
  | 0, r, h => ⟨[], rfl, fun q hq => by
    have : r = 0 := by simpa using h
    subst this
    simp⟩
  | k + 1, r, h => by
    obtain ⟨w, hw, e⟩ := D_split k (r / 10) (by rw [Nat.pow_succ] at h; omega)
    refine ⟨w ++ [(Nat.digitChar (r % 10)).toNat], by simp [hw], fun q hq => ?_⟩
    have e1 : (q * 10 ^ (k + 1) + r) / 10 = q * 10 ^ k + r / 10 := by rw [Nat.pow_succ, ← Nat.mul_assoc]; omega
    have e2 : (q * 10 ^ (k + 1) + r) % 10 = r % 10 := by rw [Nat.pow_succ, ← Nat.mul_assoc]; omega
    have big : 10 ≤ q * 10 ^ (k + 1) + r := by
      have : 10 ^ (k + 1) ≤ q * 10 ^ (k + 1) := Nat.le_mul_of_pos_left _ hq
      have : 10 ≤ 10 ^ (k + 1) := by rw [Nat.pow_succ]; have := Nat.pow_pos (n := k) (show 0 < 10 by decide); omega
      omega
    unfold D at *
    rw [Nat.toDigits_of_base_le (by decide) big, e1, e2, List.map_append, e q hq, List.append_assoc]
    rfl
theorem D_one : D 1 = [49] := by decide +kernel
theorem cut1 (c : Nat) (w : List Nat) : cutS (tx (c :: w)) (some 1) none = tx w := by
  unfold cutS tx
  have l : (Str.mk (c :: w).toArray).length = w.length + 1 := by show (c :: w).toArray.size = _; simp
  have h1 : HT.sIx (w.length + 1) 0 (some 1) = 1 := by
    show (if (1 : Int) < 0 then ((1 : Int) + ((w.length + 1 : Nat) : Int)).toNat else min (1 : Int).toNat (w.length + 1)) = 1
    rw [if_neg (by decide)]
    show min 1 (w.length + 1) = 1
    omega
  rw [l, h1, HT.sIx_none]
  simp
section
variable {pt : Nat} (hpt : pt = 10 ^ 60)
include hpt
theorem pt_pos : 0 < pt := by rw [hpt]; decide +kernel
theorem pt_lt : pt < 2 ^ 200 := by rw [hpt]; decide +kernel
theorem pt_log : ((pt : Nat) : Int) ≠ 0 ∧ ((pt : Nat) : Int).natAbs.log2 < 9000 := by
  have h0 := pt_pos hpt
  refine ⟨by omega, ?_⟩
  have : Bd 200 ((pt : Nat) : Int) := by unfold Bd; rw [Int.natAbs_natCast]; exact pt_lt hpt
  exact (this.mono (by decide : 200 ≤ 9000)).log (by decide)
/-- what a turn takes off -/
theorem D_turn (m : Nat) (h : pt ≤ m) : ∃ w : List Nat, w.length = 60 ∧ D (m % pt + pt) = 49 :: w ∧ D m = D (m / pt) ++ w := by
  have pp : 0 < pt := pt_pos hpt
  obtain ⟨w, hw, e⟩ := D_split 60 (m % pt) (by rw [← hpt]; exact Nat.mod_lt _ pp)
  rw [← hpt] at e
  refine ⟨w, hw, ?_, ?_⟩
  · have := e 1 (by decide)
    rw [D_one, Nat.one_mul, Nat.add_comm] at this
    exact this
  · have := e (m / pt) (Nat.div_pos h pp)
    rw [Nat.mul_comm, Nat.div_add_mod] at this
    exact this
omit hpt in
def dgT (pt : Nat) : StE → Out Bool := (tB (dBin (oGe bad2) (dVar 1) (dC (.int (pt : Int)))))
omit hpt in
def dgB (pt : Nat) : DS := (sSeq (sSet 3 (dBin (oAddI (oAddS (oAddL bad2))) (dBin (oMod bad2) (bindE (dCons (dVar 1) dNil) oInt) (dC (.int (pt : Int)))) (dC (.int (pt : Int)))))
    (sSeq (sSet 2 (dJoin [(dFmt (bindE (bindE (dCons (dVar 3) dNil) oStr) fun x => bindE (pSome (dC (.int 1))) fun l => bindE pNone fun h => slS x l h)), (dFmt (dVar 2))] Str.empty))
    (sSet 1 (dBin (oDiv bad2) (dVar 1) (dC (.int (pt : Int)))))))
omit hpt in
abbrev dgS (n m : Int) (t : Str) (p : Option SV) (cs : Cs) : StE := ⟨[some (.pv (.int n)), some (.pv (.int m)), some (.pv (.str t)), p, none], cs⟩
theorem lg_part (m : Nat) : (((m % pt + pt : Nat) : Int)).natAbs.log2 < 1920 := by
  have : m % pt < pt := Nat.mod_lt _ (pt_pos hpt)
  have hb : Bd 201 ((m % pt + pt : Nat) : Int) := by
    unfold Bd
    rw [Int.natAbs_natCast, Nat.pow_succ]
    have := pt_lt hpt
    omega
  exact (hb.mono (by decide : 201 ≤ 1920)).log (by decide)
theorem dg_turn (n : Int) (m : Nat) (t : List Nat) (p : Option SV) (cs : Cs) (h : pt ≤ m) (ht : t.length ≤ 100000) :
    ∃ w : List Nat, w.length = 60 ∧ D m = D (m / pt) ++ w ∧ dgT pt (dgS n m (tx t) p cs) = .ok true (dgS n m (tx t) p cs) ∧ ∃ p', dgB pt (dgS n m (tx t) p cs) = .ok .nx (dgS n (m / pt : Nat) (tx (w ++ t)) p' cs) := by
  obtain ⟨w, hw, e1, e2⟩ := D_turn hpt m h
  have c0 : decide ((pt : Int) ≤ (m : Int)) = true := decide_eq_true (by exact_mod_cast h)
  have md : ((m : Nat) : Int).fmod (pt : Int) + (pt : Int) = ((m % pt + pt : Nat) : Int) := by
    rw [Int.fmod_eq_emod_of_nonneg _ (Int.natCast_nonneg _)]
    push_cast
    rfl
  have dv : ((m : Nat) : Int).fdiv (pt : Int) = ((m / pt : Nat) : Int) := by
    rw [Int.fdiv_eq_ediv_of_nonneg _ (Int.natCast_nonneg _)]
    rfl
  have lg1 := lg_part hpt m
  have l1 : (tx (49 :: w)).length ≤ 16777216 := by rw [tx_len]; simp [hw]
  have l2 : (tx w).length ≤ 16777216 := by rw [tx_len, hw]; decide
  have l3 : (tx t).length ≤ 16777216 := by rw [tx_len]; omega
  have l4 : (tx (w ++ t)).length ≤ 16777216 := by rw [tx_len, List.length_append, hw]; omega
  have em : Str.empty ++ tx w = tx w := by rw [tx_empty, tx_app]; rfl
  have i0 : ((pt : Nat) : Int) = 0 ↔ False := ⟨(pt_log hpt).1, False.elim⟩
  have i1 := (pt_log hpt).2
  refine ⟨w, hw, e2, ?_, ?_⟩
  · simp only [dgT, dgS, pvs, Option.map_some, Option.map_none, runB, List.map_cons, List.map_nil, List.length_cons, List.length_nil, List.cons_append, List.nil_append, List.append_nil, List.getElem?_cons_zero, List.getElem?_cons_succ, List.replicate_succ, List.replicate_zero, List.set_cons_zero, List.set_cons_succ, sSeq, sIf, thenS, bindE, tNotD, tB, dCall, callP, callS, callN, dVar, dCons, dNil, retE, badE, pick, List.filterMap_cons, List.filterMap_nil, sNil, tOrD, tAndD, dAndV, dOrV, dNotV, dBin, oEqP, plainEq, dC, rBl, rI, sSet, setSl, sRet, sRetN, sDrop, sFld, o2I, oAddI, oSub, oMulI, oDiv, oMod, oLt, oLe, oGt, oGe, oAddS, oAddL, oOwn, oEqO, oNeO, okEq, okRight, dFlip, dIf, dFld, dProp, dMethG, bad2, mkTup, mkLst, dIsi, ansOf, dFrz, frz, oIx, ixOf, oGcd, oAbs, oInt, oMax2, oMin2, sPar, sPar3, sAsg, gTupD, gsCons, gsNil, gSet, Bool.false_eq_true, ite_false, ite_true, if_true, if_false, reduceIte, Bool.not_true, Bool.not_false, beq_self_eq_true, and_self, and_true, true_and, Nat.reduceAdd, Nat.reduceSub, Nat.reduceEqDiff, Nat.reduceLT, Nat.reduceLeDiff, Nat.sub_self, Nat.zero_add, List.take_zero, decide_true, decide_false, aisi_int, aisi_bool, aisi_Ratio, aisi_list_tuple, Option.some.injEq, bad1, oNegI, oNegO, dJoin, dFmt, oStr, pSome, pNone, slS, oPow, oOwn1, callT, c0]
  · refine ⟨some (.pv (.int ((m % pt + pt : Nat) : Int))), ?_⟩
    have tx1 : (toString ((m % pt + pt : Nat) : Int) : Str) = tx (49 :: w) := by rw [txt_nat, e1]
    simp only [dgB, dgS, pvs, Option.map_some, Option.map_none, runB, List.map_cons, List.map_nil, List.length_cons, List.length_nil, List.cons_append, List.nil_append, List.append_nil, List.getElem?_cons_zero, List.getElem?_cons_succ, List.replicate_succ, List.replicate_zero, List.set_cons_zero, List.set_cons_succ, sSeq, sIf, thenS, bindE, tNotD, tB, dCall, callP, callS, callN, dVar, dCons, dNil, retE, badE, pick, List.filterMap_cons, List.filterMap_nil, sNil, tOrD, tAndD, dAndV, dOrV, dNotV, dBin, oEqP, plainEq, dC, rBl, rI, sSet, setSl, sRet, sRetN, sDrop, sFld, o2I, oAddI, oSub, oMulI, oDiv, oMod, oLt, oLe, oGt, oGe, oAddS, oAddL, oOwn, oEqO, oNeO, okEq, okRight, dFlip, dIf, dFld, dProp, dMethG, bad2, mkTup, mkLst, dIsi, ansOf, dFrz, frz, oIx, ixOf, oGcd, oAbs, oInt, oMax2, oMin2, sPar, sPar3, sAsg, gTupD, gsCons, gsNil, gSet, Bool.false_eq_true, ite_false, ite_true, if_true, if_false, reduceIte, Bool.not_true, Bool.not_false, beq_self_eq_true, and_self, and_true, true_and, Nat.reduceAdd, Nat.reduceSub, Nat.reduceEqDiff, Nat.reduceLT, Nat.reduceLeDiff, Nat.sub_self, Nat.zero_add, List.take_zero, decide_true, decide_false, aisi_int, aisi_bool, aisi_Ratio, aisi_list_tuple, Option.some.injEq, bad1, oNegI, oNegO, dJoin, dFmt, oStr, pSome, pNone, slS, oPow, oOwn1, callT, md, dv, lg1, tx1, l1, cut1, l2, l3, em, tx_app, l4, i0, i1, ne_eq, not_false_eq_true]
theorem dg_loop (n : Int) (cs : Cs) : ∀ (j f m : Nat) (t : List Nat) (p : Option SV), m < 10 ^ (60 * (j + 1)) → j < f → t.length + 60 * j ≤ 100000 →
    ∃ (q : Nat) (w : List Nat) (p' : Option SV), q < pt ∧ D m ++ t = D q ++ w ∧ w.length ≤ t.length + 60 * j ∧ whileF (dgT pt) (dgB pt) f (dgS n m (tx t) p cs) = .ok .nx (dgS n q (tx w) p' cs)
  | j, 0, m, t, p, _, h, _ => absurd h (Nat.not_lt_zero _)
  | j, f + 1, m, t, p, hm, hj, hl => by
    by_cases h : pt ≤ m
    · obtain ⟨w, hw, e1, e2, p1, e3⟩ := dg_turn hpt n m t p cs h (by omega)
      cases j with
      | zero =>
        rw [Nat.zero_add, Nat.mul_one, ← hpt] at hm
        omega
      | succ j =>
        have hm' : m / pt < 10 ^ (60 * (j + 1)) := by
          refine Nat.div_lt_of_lt_mul ?_
          rw [hpt, ← Nat.pow_add]
          have : 60 + 60 * (j + 1) = 60 * (j + 1 + 1) := by omega
          rw [this]; exact hm
        obtain ⟨q, w', p', h1, h2, h3, h4⟩ := dg_loop n cs j f (m / pt) (w ++ t) p1 hm' (by omega) (by rw [List.length_append, hw]; omega)
        refine ⟨q, w', p', h1, ?_, ?_, ?_⟩
        · rw [e1, List.append_assoc]; exact h2
        · rw [List.length_append, hw] at h3; omega
        · show (match dgT pt (dgS n m (tx t) p cs) with
            | .ok true e1 => loopK (whileF (dgT pt) (dgB pt) f) (dgB pt e1)
            | .ok false e1 => .ok .nx e1
            | .exc c fs e1 => .exc c fs e1
            | .bad => .bad) = _
          rw [e2]
          dsimp only
          rw [e3]
          exact h4
    · have c0 : decide ((pt : Int) ≤ (m : Int)) = false := decide_eq_false (by exact_mod_cast h)
      refine ⟨m, t, p, by omega, rfl, by omega, ?_⟩
      show (match dgT pt (dgS n m (tx t) p cs) with
        | .ok true e1 => loopK (whileF (dgT pt) (dgB pt) f) (dgB pt e1)
        | .ok false e1 => .ok .nx e1
        | .exc c fs e1 => .exc c fs e1
        | .bad => .bad) = _
      have e2 : dgT pt (dgS n m (tx t) p cs) = .ok false (dgS n m (tx t) p cs) := by simp only [dgT, dgS, pvs, Option.map_some, Option.map_none, runB, List.map_cons, List.map_nil, List.length_cons, List.length_nil, List.cons_append, List.nil_append, List.append_nil, List.getElem?_cons_zero, List.getElem?_cons_succ, List.replicate_succ, List.replicate_zero, List.set_cons_zero, List.set_cons_succ, sSeq, sIf, thenS, bindE, tNotD, tB, dCall, callP, callS, callN, dVar, dCons, dNil, retE, badE, pick, List.filterMap_cons, List.filterMap_nil, sNil, tOrD, tAndD, dAndV, dOrV, dNotV, dBin, oEqP, plainEq, dC, rBl, rI, sSet, setSl, sRet, sRetN, sDrop, sFld, o2I, oAddI, oSub, oMulI, oDiv, oMod, oLt, oLe, oGt, oGe, oAddS, oAddL, oOwn, oEqO, oNeO, okEq, okRight, dFlip, dIf, dFld, dProp, dMethG, bad2, mkTup, mkLst, dIsi, ansOf, dFrz, frz, oIx, ixOf, oGcd, oAbs, oInt, oMax2, oMin2, sPar, sPar3, sAsg, gTupD, gsCons, gsNil, gSet, Bool.false_eq_true, ite_false, ite_true, if_true, if_false, reduceIte, Bool.not_true, Bool.not_false, beq_self_eq_true, and_self, and_true, true_and, Nat.reduceAdd, Nat.reduceSub, Nat.reduceEqDiff, Nat.reduceLT, Nat.reduceLeDiff, Nat.sub_self, Nat.zero_add, List.take_zero, decide_true, decide_false, aisi_int, aisi_bool, aisi_Ratio, aisi_list_tuple, Option.some.injEq, bad1, oNegI, oNegO, dJoin, dFmt, oStr, pSome, pNone, slS, oPow, oOwn1, callT, c0]
      rw [e2]
theorem q_facts {q : Nat} (h1 : q < pt) : (D q).length ≤ 60 ∧ ((q : Nat) : Int).natAbs.log2 < 1920 := by
  refine ⟨D_len (by decide) (by rw [← hpt]; exact h1), ?_⟩
  have : Bd 200 ((q : Nat) : Int) := by unfold Bd; rw [Int.natAbs_natCast]; exact Nat.lt_trans h1 (pt_lt hpt)
  exact (this.mono (by decide : 200 ≤ 1920)).log (by decide)
end
theorem fuel1 {m : Nat} (h : m < 2 ^ 1920) : m < 10 ^ (60 * (32 + 1)) := Nat.lt_of_lt_of_le h (Nat.le_trans (Nat.pow_le_pow_left (by decide : 2 ≤ 10) 1920) (Nat.pow_le_pow_right (by decide) (by decide)))
/-- the def with its number told apart -/
def dgM (pt : Nat) : DF := runB 5 (
    (sSeq (sPar 1 2 (dCons (dIf (tB (dBin (oGe bad2) (dVar 0) (dC (.int 0)))) (dVar 0) (dBin (oSub bad2) (dC (.int 0)) (dVar 0))) (dCons (dC (.str "")) dNil)))
    (sSeq (whileF (dgT pt) (dgB pt) 100000)
    (sSeq (sSet 4 (dIf (tB (dBin (oLt bad2) (dVar 0) (dC (.int 0)))) (dC (.str "-")) (dC (.str ""))))
    (sRet (dJoin [(dFmt (dVar 4)), (dFmt (dVar 1)), (dFmt (dVar 2))] Str.empty))))))
theorem dgM_is : d_digits_of = dgM 1000000000000000000000000000000000000000000000000000000000000 := rfl
theorem dgM_ok {pt : Nat} (hpt : pt = 10 ^ 60) (n : Int) (hb : Bd 1920 n) (cs : Cs) : dgM pt [.pv (.int n)] cs = .ok (.pv (.str (toString n))) ⟨[], cs⟩ := by
  by_cases hn : n < 0
  · obtain ⟨m, rfl⟩ : ∃ m : Nat, n = -(m : Int) := ⟨n.natAbs, by omega⟩
    have hm0 : 0 < m := by omega
    have c0 : decide ((0 : Int) ≤ -(m : Int)) = false := decide_eq_false (by omega)
    have c1 : decide (-(m : Int) < 0) = true := decide_eq_true hn
    obtain ⟨q, w, p', h1, h2, h3, h4⟩ := dg_loop hpt (-(m : Int)) cs 32 100000 m [] none (fuel1 (by unfold Bd at hb; omega)) (by decide) (by decide)
    have e0 : (0 : Int) - -(m : Int) = m := by omega
    obtain ⟨lq, lgq⟩ := q_facts hpt h1
    have lw : w.length ≤ 2000 := by simp at h3; omega
    have l0 : (tx [45]).length ≤ 16777216 := by rw [tx_len]; decide
    have l1 : (tx w).length ≤ 16777216 := by rw [tx_len]; omega
    have l2 : (tx (45 :: D q)).length ≤ 16777216 := by rw [tx_len]; simp; omega
    have l3 : (tx (45 :: (D q ++ w))).length ≤ 16777216 := by rw [tx_len]; simp; omega
    have em : Str.empty ++ tx [45] = tx [45] := by rw [tx_empty, tx_app]; rfl
    have res : (toString (-(m : Int)) : Str) = tx (45 :: (D q ++ w)) := by
      rw [txt_neg m hm0, ← h2, List.append_nil]
    rw [res]
    simp only [dgM, pvs, Option.map_some, Option.map_none, runB, List.map_cons, List.map_nil, List.length_cons, List.length_nil, List.cons_append, List.nil_append, List.append_nil, List.getElem?_cons_zero, List.getElem?_cons_succ, List.replicate_succ, List.replicate_zero, List.set_cons_zero, List.set_cons_succ, sSeq, sIf, thenS, bindE, tNotD, tB, dCall, callP, callS, callN, dVar, dCons, dNil, retE, badE, pick, List.filterMap_cons, List.filterMap_nil, sNil, tOrD, tAndD, dAndV, dOrV, dNotV, dBin, oEqP, plainEq, dC, rBl, rI, sSet, setSl, sRet, sRetN, sDrop, sFld, o2I, oAddI, oSub, oMulI, oDiv, oMod, oLt, oLe, oGt, oGe, oAddS, oAddL, oOwn, oEqO, oNeO, okEq, okRight, dFlip, dIf, dFld, dProp, dMethG, bad2, mkTup, mkLst, dIsi, ansOf, dFrz, frz, oIx, ixOf, oGcd, oAbs, oInt, oMax2, oMin2, sPar, sPar3, sAsg, gTupD, gsCons, gsNil, gSet, Bool.false_eq_true, ite_false, ite_true, if_true, if_false, reduceIte, Bool.not_true, Bool.not_false, beq_self_eq_true, and_self, and_true, true_and, Nat.reduceAdd, Nat.reduceSub, Nat.reduceEqDiff, Nat.reduceLT, Nat.reduceLeDiff, Nat.sub_self, Nat.zero_add, List.take_zero, decide_true, decide_false, aisi_int, aisi_bool, aisi_Ratio, aisi_list_tuple, Option.some.injEq, bad1, oNegI, oNegO, dJoin, dFmt, oStr, pSome, pNone, slS, oPow, oOwn1, callT, c0, c1, e0, tx_nil]
    rw [h4]
    simp only [pvs, Option.map_some, Option.map_none, runB, List.map_cons, List.map_nil, List.length_cons, List.length_nil, List.cons_append, List.nil_append, List.append_nil, List.getElem?_cons_zero, List.getElem?_cons_succ, List.replicate_succ, List.replicate_zero, List.set_cons_zero, List.set_cons_succ, sSeq, sIf, thenS, bindE, tNotD, tB, dCall, callP, callS, callN, dVar, dCons, dNil, retE, badE, pick, List.filterMap_cons, List.filterMap_nil, sNil, tOrD, tAndD, dAndV, dOrV, dNotV, dBin, oEqP, plainEq, dC, rBl, rI, sSet, setSl, sRet, sRetN, sDrop, sFld, o2I, oAddI, oSub, oMulI, oDiv, oMod, oLt, oLe, oGt, oGe, oAddS, oAddL, oOwn, oEqO, oNeO, okEq, okRight, dFlip, dIf, dFld, dProp, dMethG, bad2, mkTup, mkLst, dIsi, ansOf, dFrz, frz, oIx, ixOf, oGcd, oAbs, oInt, oMax2, oMin2, sPar, sPar3, sAsg, gTupD, gsCons, gsNil, gSet, Bool.false_eq_true, ite_false, ite_true, if_true, if_false, reduceIte, Bool.not_true, Bool.not_false, beq_self_eq_true, and_self, and_true, true_and, Nat.reduceAdd, Nat.reduceSub, Nat.reduceEqDiff, Nat.reduceLT, Nat.reduceLeDiff, Nat.sub_self, Nat.zero_add, List.take_zero, decide_true, decide_false, aisi_int, aisi_bool, aisi_Ratio, aisi_list_tuple, Option.some.injEq, bad1, oNegI, oNegO, dJoin, dFmt, oStr, pSome, pNone, slS, oPow, oOwn1, callT, c1, tx_minus, l0, em, lgq, txt_nat, tx_app, l1, l2, l3]
  · obtain ⟨m, rfl⟩ : ∃ m : Nat, n = (m : Int) := ⟨n.natAbs, by omega⟩
    have c0 : decide ((0 : Int) ≤ (m : Int)) = true := decide_eq_true (by omega)
    have c1 : decide ((m : Int) < 0) = false := decide_eq_false hn
    obtain ⟨q, w, p', h1, h2, h3, h4⟩ := dg_loop hpt (m : Int) cs 32 100000 m [] none (fuel1 (by unfold Bd at hb; omega)) (by decide) (by decide)
    obtain ⟨lq, lgq⟩ := q_facts hpt h1
    have lw : w.length ≤ 2000 := by simp at h3; omega
    have l0 : (tx []).length ≤ 16777216 := by rw [tx_len]; decide
    have l1 : (tx w).length ≤ 16777216 := by rw [tx_len]; omega
    have l2 : (tx (D q)).length ≤ 16777216 := by rw [tx_len]; omega
    have l3 : (tx (D q ++ w)).length ≤ 16777216 := by rw [tx_len, List.length_append]; omega
    have em : Str.empty ++ tx [] = tx [] := by rw [tx_empty, tx_app]; rfl
    have res : (toString (m : Int) : Str) = tx (D q ++ w) := by
      rw [txt_nat, ← h2, List.append_nil]
    rw [res]
    simp only [dgM, pvs, Option.map_some, Option.map_none, runB, List.map_cons, List.map_nil, List.length_cons, List.length_nil, List.cons_append, List.nil_append, List.append_nil, List.getElem?_cons_zero, List.getElem?_cons_succ, List.replicate_succ, List.replicate_zero, List.set_cons_zero, List.set_cons_succ, sSeq, sIf, thenS, bindE, tNotD, tB, dCall, callP, callS, callN, dVar, dCons, dNil, retE, badE, pick, List.filterMap_cons, List.filterMap_nil, sNil, tOrD, tAndD, dAndV, dOrV, dNotV, dBin, oEqP, plainEq, dC, rBl, rI, sSet, setSl, sRet, sRetN, sDrop, sFld, o2I, oAddI, oSub, oMulI, oDiv, oMod, oLt, oLe, oGt, oGe, oAddS, oAddL, oOwn, oEqO, oNeO, okEq, okRight, dFlip, dIf, dFld, dProp, dMethG, bad2, mkTup, mkLst, dIsi, ansOf, dFrz, frz, oIx, ixOf, oGcd, oAbs, oInt, oMax2, oMin2, sPar, sPar3, sAsg, gTupD, gsCons, gsNil, gSet, Bool.false_eq_true, ite_false, ite_true, if_true, if_false, reduceIte, Bool.not_true, Bool.not_false, beq_self_eq_true, and_self, and_true, true_and, Nat.reduceAdd, Nat.reduceSub, Nat.reduceEqDiff, Nat.reduceLT, Nat.reduceLeDiff, Nat.sub_self, Nat.zero_add, List.take_zero, decide_true, decide_false, aisi_int, aisi_bool, aisi_Ratio, aisi_list_tuple, Option.some.injEq, bad1, oNegI, oNegO, dJoin, dFmt, oStr, pSome, pNone, slS, oPow, oOwn1, callT, c0, c1, tx_nil]
    rw [h4]
    simp only [pvs, Option.map_some, Option.map_none, runB, List.map_cons, List.map_nil, List.length_cons, List.length_nil, List.cons_append, List.nil_append, List.append_nil, List.getElem?_cons_zero, List.getElem?_cons_succ, List.replicate_succ, List.replicate_zero, List.set_cons_zero, List.set_cons_succ, sSeq, sIf, thenS, bindE, tNotD, tB, dCall, callP, callS, callN, dVar, dCons, dNil, retE, badE, pick, List.filterMap_cons, List.filterMap_nil, sNil, tOrD, tAndD, dAndV, dOrV, dNotV, dBin, oEqP, plainEq, dC, rBl, rI, sSet, setSl, sRet, sRetN, sDrop, sFld, o2I, oAddI, oSub, oMulI, oDiv, oMod, oLt, oLe, oGt, oGe, oAddS, oAddL, oOwn, oEqO, oNeO, okEq, okRight, dFlip, dIf, dFld, dProp, dMethG, bad2, mkTup, mkLst, dIsi, ansOf, dFrz, frz, oIx, ixOf, oGcd, oAbs, oInt, oMax2, oMin2, sPar, sPar3, sAsg, gTupD, gsCons, gsNil, gSet, Bool.false_eq_true, ite_false, ite_true, if_true, if_false, reduceIte, Bool.not_true, Bool.not_false, beq_self_eq_true, and_self, and_true, true_and, Nat.reduceAdd, Nat.reduceSub, Nat.reduceEqDiff, Nat.reduceLT, Nat.reduceLeDiff, Nat.sub_self, Nat.zero_add, List.take_zero, decide_true, decide_false, aisi_int, aisi_bool, aisi_Ratio, aisi_list_tuple, Option.some.injEq, bad1, oNegI, oNegO, dJoin, dFmt, oStr, pSome, pNone, slS, oPow, oOwn1, callT, c1, tx_nil, l0, em, lgq, txt_nat, tx_app, l1, l2, l3]
theorem e_digits (n : Int) (hb : Bd 1920 n) (cs : Cs) : d_digits_of [.pv (.int n)] cs = .ok (.pv (.str (toString n))) ⟨[], cs⟩ := by
  rw [dgM_is]
  exact dgM_ok (by decide +kernel) n hb cs
end Sh.Law
namespace Sh.Law
open PySem PySem.Spec Sh L2
/-! # the common divisor, by the law's own steps -/
def cmT : StE → Out Bool := (tB (dBin (oGt bad2) (dVar 3) (dC (.int 0))))
def cmB : DS := (sPar 2 3 (dCons (dVar 3) (dCons (dBin (oMod bad2) (dVar 2) (dVar 3)) dNil)))
abbrev cmS (x y : SV) (m n : Int) (cs : Cs) : StE := ⟨[some x, some y, some (.pv (.int m)), some (.pv (.int n))], cs⟩
theorem cm_stop (x y : SV) (m : Nat) (cs : Cs) (f : Nat) : whileF cmT cmB (f + 1) (cmS x y m (0 : Nat) cs) = .ok .nx (cmS x y m (0 : Nat) cs) := by
  have c0 : decide ((0 : Int) < ((0 : Nat) : Int)) = false := by decide
  show (match cmT (cmS x y m (0 : Nat) cs) with
    | .ok true e1 => loopK (whileF cmT cmB f) (cmB e1)
    | .ok false e1 => .ok .nx e1
    | .exc c fs e1 => .exc c fs e1
    | .bad => .bad) = _
  have e2 : cmT (cmS x y m (0 : Nat) cs) = .ok false (cmS x y m (0 : Nat) cs) := by simp only [cmT, cmS, pvs, Option.map_some, Option.map_none, runB, List.map_cons, List.map_nil, List.length_cons, List.length_nil, List.cons_append, List.nil_append, List.append_nil, List.getElem?_cons_zero, List.getElem?_cons_succ, List.replicate_succ, List.replicate_zero, List.set_cons_zero, List.set_cons_succ, sSeq, sIf, thenS, bindE, tNotD, tB, dCall, callP, callS, callN, dVar, dCons, dNil, retE, badE, pick, List.filterMap_cons, List.filterMap_nil, sNil, tOrD, tAndD, dAndV, dOrV, dNotV, dBin, oEqP, plainEq, dC, rBl, rI, sSet, setSl, sRet, sRetN, sDrop, sFld, o2I, oAddI, oSub, oMulI, oDiv, oMod, oLt, oLe, oGt, oGe, oAddS, oAddL, oOwn, oEqO, oNeO, okEq, okRight, dFlip, dIf, dFld, dProp, dMethG, bad2, mkTup, mkLst, dIsi, ansOf, dFrz, frz, oIx, ixOf, oGcd, oAbs, oInt, oMax2, oMin2, sPar, sPar3, sAsg, gTupD, gsCons, gsNil, gSet, Bool.false_eq_true, ite_false, ite_true, if_true, if_false, reduceIte, Bool.not_true, Bool.not_false, beq_self_eq_true, and_self, and_true, true_and, Nat.reduceAdd, Nat.reduceSub, Nat.reduceEqDiff, Nat.reduceLT, Nat.reduceLeDiff, Nat.sub_self, Nat.zero_add, List.take_zero, decide_true, decide_false, aisi_int, aisi_bool, aisi_Ratio, aisi_list_tuple, Option.some.injEq, bad1, oNegI, oNegO, dJoin, dFmt, oStr, pSome, pNone, slS, oPow, oOwn1, callT, c0]
  rw [e2]
theorem cm_step (x y : SV) (m n : Nat) (hn : 0 < n) (cs : Cs) (f : Nat) : whileF cmT cmB (f + 1) (cmS x y m n cs) = whileF cmT cmB f (cmS x y n (m % n : Nat) cs) := by
  have c0 : decide ((0 : Int) < (n : Int)) = true := decide_eq_true (by omega)
  have i0 : ((n : Nat) : Int) = 0 ↔ False := ⟨by omega, False.elim⟩
  have md : ((m : Nat) : Int).fmod (n : Int) = ((m % n : Nat) : Int) := by
    rw [Int.fmod_eq_emod_of_nonneg _ (Int.natCast_nonneg _)]
    rfl
  show (match cmT (cmS x y m n cs) with
    | .ok true e1 => loopK (whileF cmT cmB f) (cmB e1)
    | .ok false e1 => .ok .nx e1
    | .exc c fs e1 => .exc c fs e1
    | .bad => .bad) = _
  have e2 : cmT (cmS x y m n cs) = .ok true (cmS x y m n cs) := by simp only [cmT, cmS, pvs, Option.map_some, Option.map_none, runB, List.map_cons, List.map_nil, List.length_cons, List.length_nil, List.cons_append, List.nil_append, List.append_nil, List.getElem?_cons_zero, List.getElem?_cons_succ, List.replicate_succ, List.replicate_zero, List.set_cons_zero, List.set_cons_succ, sSeq, sIf, thenS, bindE, tNotD, tB, dCall, callP, callS, callN, dVar, dCons, dNil, retE, badE, pick, List.filterMap_cons, List.filterMap_nil, sNil, tOrD, tAndD, dAndV, dOrV, dNotV, dBin, oEqP, plainEq, dC, rBl, rI, sSet, setSl, sRet, sRetN, sDrop, sFld, o2I, oAddI, oSub, oMulI, oDiv, oMod, oLt, oLe, oGt, oGe, oAddS, oAddL, oOwn, oEqO, oNeO, okEq, okRight, dFlip, dIf, dFld, dProp, dMethG, bad2, mkTup, mkLst, dIsi, ansOf, dFrz, frz, oIx, ixOf, oGcd, oAbs, oInt, oMax2, oMin2, sPar, sPar3, sAsg, gTupD, gsCons, gsNil, gSet, Bool.false_eq_true, ite_false, ite_true, if_true, if_false, reduceIte, Bool.not_true, Bool.not_false, beq_self_eq_true, and_self, and_true, true_and, Nat.reduceAdd, Nat.reduceSub, Nat.reduceEqDiff, Nat.reduceLT, Nat.reduceLeDiff, Nat.sub_self, Nat.zero_add, List.take_zero, decide_true, decide_false, aisi_int, aisi_bool, aisi_Ratio, aisi_list_tuple, Option.some.injEq, bad1, oNegI, oNegO, dJoin, dFmt, oStr, pSome, pNone, slS, oPow, oOwn1, callT, c0]
  have e3 : cmB (cmS x y m n cs) = .ok .nx (cmS x y n (m % n : Nat) cs) := by simp only [cmB, cmS, pvs, Option.map_some, Option.map_none, runB, List.map_cons, List.map_nil, List.length_cons, List.length_nil, List.cons_append, List.nil_append, List.append_nil, List.getElem?_cons_zero, List.getElem?_cons_succ, List.replicate_succ, List.replicate_zero, List.set_cons_zero, List.set_cons_succ, sSeq, sIf, thenS, bindE, tNotD, tB, dCall, callP, callS, callN, dVar, dCons, dNil, retE, badE, pick, List.filterMap_cons, List.filterMap_nil, sNil, tOrD, tAndD, dAndV, dOrV, dNotV, dBin, oEqP, plainEq, dC, rBl, rI, sSet, setSl, sRet, sRetN, sDrop, sFld, o2I, oAddI, oSub, oMulI, oDiv, oMod, oLt, oLe, oGt, oGe, oAddS, oAddL, oOwn, oEqO, oNeO, okEq, okRight, dFlip, dIf, dFld, dProp, dMethG, bad2, mkTup, mkLst, dIsi, ansOf, dFrz, frz, oIx, ixOf, oGcd, oAbs, oInt, oMax2, oMin2, sPar, sPar3, sAsg, gTupD, gsCons, gsNil, gSet, Bool.false_eq_true, ite_false, ite_true, if_true, if_false, reduceIte, Bool.not_true, Bool.not_false, beq_self_eq_true, and_self, and_true, true_and, Nat.reduceAdd, Nat.reduceSub, Nat.reduceEqDiff, Nat.reduceLT, Nat.reduceLeDiff, Nat.sub_self, Nat.zero_add, List.take_zero, decide_true, decide_false, aisi_int, aisi_bool, aisi_Ratio, aisi_list_tuple, Option.some.injEq, bad1, oNegI, oNegO, dJoin, dFmt, oStr, pSome, pNone, slS, oPow, oOwn1, callT, i0, md, ne_eq, not_false_eq_true]
  rw [e2]
  dsimp only
  rw [e3]
  rfl
theorem cm_loop (x y : SV) (cs : Cs) : ∀ (k f m n : Nat), n < 2 ^ k → 2 * k + 1 ≤ f → whileF cmT cmB f (cmS x y m n cs) = .ok .nx (cmS x y (Nat.gcd m n : Nat) (0 : Nat) cs)
  | k, 0, m, n, _, h => by omega
  | 0, f + 1, m, n, h, _ => by
    have : n = 0 := by simpa using h
    subst this
    rw [cm_stop, Nat.gcd_zero_right]
  | k + 1, f + 1, m, n, h, hf => by
    by_cases h0 : n = 0
    · subst h0
      rw [cm_stop, Nat.gcd_zero_right]
    · have hn : 0 < n := Nat.pos_of_ne_zero h0
      rw [cm_step x y m n hn cs f]
      have g1 : Nat.gcd m n = Nat.gcd n (m % n) := by rw [Nat.gcd_comm m n, Nat.gcd_rec n m, Nat.gcd_comm]
      rw [g1]
      by_cases h1 : m % n = 0
      · rw [h1, Nat.gcd_zero_right]
        obtain ⟨f', rfl⟩ : ∃ f', f = f' + 1 := ⟨f - 1, by omega⟩
        exact cm_stop x y n cs f'
      · have hr : 0 < m % n := Nat.pos_of_ne_zero h1
        have hlt : m % n < n := Nat.mod_lt _ hn
        obtain ⟨f', rfl⟩ : ∃ f', f = f' + 1 := ⟨f - 1, by omega⟩
        rw [cm_step x y n (m % n) hr cs f']
        have g2 : Nat.gcd n (m % n) = Nat.gcd (m % n) (n % (m % n)) := by rw [Nat.gcd_comm n, Nat.gcd_rec (m % n) n, Nat.gcd_comm]
        rw [g2]
        have half : 2 * (n % (m % n)) < n := by
          have a1 : n % (m % n) < m % n := Nat.mod_lt _ hr
          have a2 : n = (m % n) * (n / (m % n)) + n % (m % n) := (Nat.div_add_mod n (m % n)).symm
          have a3 : 1 ≤ n / (m % n) := Nat.div_pos (Nat.le_of_lt hlt) hr
          have a4 : (m % n) * 1 ≤ (m % n) * (n / (m % n)) := Nat.mul_le_mul_left _ a3
          omega
        exact cm_loop x y cs k f' (m % n) (n % (m % n)) (by rw [Nat.pow_succ] at h; omega) (by omega)
theorem abs_is (i : Int) : (if i < 0 then -i else i) = ((i.natAbs : Nat) : Int) := by split <;> omega
theorem e_common (a b : Int) (hb : Bd 2000 b) (cs : Cs) : d__law_common [.pv (.int a), .pv (.int b)] cs = .ok (.pv (.int (Nat.gcd a.natAbs b.natAbs : Nat))) ⟨[], cs⟩ := by
  have h := cm_loop (.pv (.int a)) (.pv (.int b)) cs 2000 100000 a.natAbs b.natAbs hb (by decide)
  unfold d__law_common
  change runB 4 (sSeq _ (sSeq (whileF cmT cmB 100000) _)) _ _ = _
  simp only [pvs, Option.map_some, Option.map_none, runB, List.map_cons, List.map_nil, List.length_cons, List.length_nil, List.cons_append, List.nil_append, List.append_nil, List.getElem?_cons_zero, List.getElem?_cons_succ, List.replicate_succ, List.replicate_zero, List.set_cons_zero, List.set_cons_succ, sSeq, sIf, thenS, bindE, tNotD, tB, dCall, callP, callS, callN, dVar, dCons, dNil, retE, badE, pick, List.filterMap_cons, List.filterMap_nil, sNil, tOrD, tAndD, dAndV, dOrV, dNotV, dBin, oEqP, plainEq, dC, rBl, rI, sSet, setSl, sRet, sRetN, sDrop, sFld, o2I, oAddI, oSub, oMulI, oDiv, oMod, oLt, oLe, oGt, oGe, oAddS, oAddL, oOwn, oEqO, oNeO, okEq, okRight, dFlip, dIf, dFld, dProp, dMethG, bad2, mkTup, mkLst, dIsi, ansOf, dFrz, frz, oIx, ixOf, oGcd, oAbs, oInt, oMax2, oMin2, sPar, sPar3, sAsg, gTupD, gsCons, gsNil, gSet, Bool.false_eq_true, ite_false, ite_true, if_true, if_false, reduceIte, Bool.not_true, Bool.not_false, beq_self_eq_true, and_self, and_true, true_and, Nat.reduceAdd, Nat.reduceSub, Nat.reduceEqDiff, Nat.reduceLT, Nat.reduceLeDiff, Nat.sub_self, Nat.zero_add, List.take_zero, decide_true, decide_false, aisi_int, aisi_bool, aisi_Ratio, aisi_list_tuple, Option.some.injEq, bad1, oNegI, oNegO, dJoin, dFmt, oStr, pSome, pNone, slS, oPow, oOwn1, callT, abs_is]
  rw [h]
  rfl
/-! # texts -/
theorem s_len (a b : Str) : (a ++ b).length = a.length + b.length := by
  show (a.cps ++ b.cps).size = _
  simp [Str.length]
theorem s_assoc (a b c : Str) : a ++ b ++ c = a ++ (b ++ c) := by
  show Str.mk (a.cps ++ b.cps ++ c.cps) = Str.mk (a.cps ++ (b.cps ++ c.cps))
  simp
theorem s_empty (a : Str) : Str.empty ++ a = a := by
  show Str.mk (#[] ++ a.cps) = a
  simp
theorem s_nil (a : Str) : a ++ ("" : Str) = a := by
  have : ("" : Str) = Str.mk #[] := by first | rfl | decide +kernel
  rw [this]
  show Str.mk (a.cps ++ #[]) = a
  simp
theorem s_emp0 : Str.empty.length = 0 := rfl
theorem int_len {n : Int} (h : Bd 1900 n) : ((toString n : Str)).length ≤ 2000 := by
  by_cases hn : n < 0
  · obtain ⟨m, rfl⟩ : ∃ m : Nat, n = -(m : Int) := ⟨n.natAbs, by omega⟩
    rw [txt_neg m (by omega), tx_len, List.length_cons]
    have : (D m).length ≤ 1900 := D_len (by decide) (by
      have : m < 2 ^ 1900 := by unfold Bd at h; omega
      exact Nat.lt_of_lt_of_le this (Nat.pow_le_pow_left (by decide) _))
    omega
  · obtain ⟨m, rfl⟩ : ∃ m : Nat, n = (m : Int) := ⟨n.natAbs, by omega⟩
    rw [txt_nat m, tx_len]
    have : (D m).length ≤ 1900 := D_len (by decide) (by
      have : m < 2 ^ 1900 := by unfold Bd at h; omega
      exact Nat.lt_of_lt_of_le this (Nat.pow_le_pow_left (by decide) _))
    omega
/-- as the law writes it -/
def wr (a b : Int) : Str := if b = 1 then toString a else (toString a : Str) ++ (("/" : Str) ++ (toString b : Str))
theorem e_str {a b : Int} (ha : Bd 1900 a) (hb : Bd 1900 b) (cs : Cs) : d_Ratio___str__ [Rt a b] cs = .ok (.pv (.str (wr a b))) ⟨[], cs⟩ := by
  have da := e_digits a (ha.mono (by decide)) []
  have db := e_digits b (hb.mono (by decide)) []
  have la := int_len ha
  have lb := int_len hb
  have ls : ("/" : Str).length = 1 := by decide +kernel
  unfold wr
  generalize (toString a : Str) = sa at *
  generalize (toString b : Str) = sb at *
  have l1 : sa.length ≤ 16777216 := by omega
  have l2 : sb.length ≤ 16777216 := by omega
  have l3 : (sa ++ ("/" : Str)).length ≤ 16777216 := by rw [s_len]; omega
  have l4 : (sa ++ ("/" : Str) ++ sb).length ≤ 16777216 := by rw [s_len, s_len]; omega
  by_cases h : b = 1
  · have d0 : decide (b = 1) = true := decide_eq_true h
    rw [if_pos h]
    simp only [d_Ratio___str__, Rt, pvs, Option.map_some, Option.map_none, runB, List.map_cons, List.map_nil, List.length_cons, List.length_nil, List.cons_append, List.nil_append, List.append_nil, List.getElem?_cons_zero, List.getElem?_cons_succ, List.replicate_succ, List.replicate_zero, List.set_cons_zero, List.set_cons_succ, sSeq, sIf, thenS, bindE, tNotD, tB, dCall, callP, callS, callN, dVar, dCons, dNil, retE, badE, pick, List.filterMap_cons, List.filterMap_nil, sNil, tOrD, tAndD, dAndV, dOrV, dNotV, dBin, oEqP, plainEq, dC, rBl, rI, sSet, setSl, sRet, sRetN, sDrop, sFld, o2I, oAddI, oSub, oMulI, oDiv, oMod, oLt, oLe, oGt, oGe, oAddS, oAddL, oOwn, oEqO, oNeO, okEq, okRight, dFlip, dIf, dFld, dProp, dMethG, bad2, mkTup, mkLst, dIsi, ansOf, dFrz, frz, oIx, ixOf, oGcd, oAbs, oInt, oMax2, oMin2, sPar, sPar3, sAsg, gTupD, gsCons, gsNil, gSet, Bool.false_eq_true, ite_false, ite_true, if_true, if_false, reduceIte, Bool.not_true, Bool.not_false, beq_self_eq_true, and_self, and_true, true_and, Nat.reduceAdd, Nat.reduceSub, Nat.reduceEqDiff, Nat.reduceLT, Nat.reduceLeDiff, Nat.sub_self, Nat.zero_add, List.take_zero, decide_true, decide_false, aisi_int, aisi_bool, aisi_Ratio, aisi_list_tuple, Option.some.injEq, bad1, oNegI, oNegO, dJoin, dFmt, oStr, pSome, pNone, slS, oPow, oOwn1, callT, d0, da, l1]
  · have d0 : decide (b = 1) = false := decide_eq_false h
    rw [if_neg h, ← s_assoc]
    simp only [d_Ratio___str__, Rt, pvs, Option.map_some, Option.map_none, runB, List.map_cons, List.map_nil, List.length_cons, List.length_nil, List.cons_append, List.nil_append, List.append_nil, List.getElem?_cons_zero, List.getElem?_cons_succ, List.replicate_succ, List.replicate_zero, List.set_cons_zero, List.set_cons_succ, sSeq, sIf, thenS, bindE, tNotD, tB, dCall, callP, callS, callN, dVar, dCons, dNil, retE, badE, pick, List.filterMap_cons, List.filterMap_nil, sNil, tOrD, tAndD, dAndV, dOrV, dNotV, dBin, oEqP, plainEq, dC, rBl, rI, sSet, setSl, sRet, sRetN, sDrop, sFld, o2I, oAddI, oSub, oMulI, oDiv, oMod, oLt, oLe, oGt, oGe, oAddS, oAddL, oOwn, oEqO, oNeO, okEq, okRight, dFlip, dIf, dFld, dProp, dMethG, bad2, mkTup, mkLst, dIsi, ansOf, dFrz, frz, oIx, ixOf, oGcd, oAbs, oInt, oMax2, oMin2, sPar, sPar3, sAsg, gTupD, gsCons, gsNil, gSet, Bool.false_eq_true, ite_false, ite_true, if_true, if_false, reduceIte, Bool.not_true, Bool.not_false, beq_self_eq_true, and_self, and_true, true_and, Nat.reduceAdd, Nat.reduceSub, Nat.reduceEqDiff, Nat.reduceLT, Nat.reduceLeDiff, Nat.sub_self, Nat.zero_add, List.take_zero, decide_true, decide_false, aisi_int, aisi_bool, aisi_Ratio, aisi_list_tuple, Option.some.injEq, bad1, oNegI, oNegO, dJoin, dFmt, oStr, pSome, pNone, slS, oPow, oOwn1, callT, d0, da, db, l1, l2, s_empty, l3, l4]
def rp (a b : Int) : Str := ("Ratio(" : Str) ++ (toString a : Str) ++ (", " : Str) ++ (toString b : Str) ++ (")" : Str)
theorem e_repr {a b : Int} (ha : Bd 1900 a) (hb : Bd 1900 b) (cs : Cs) : d_Ratio___repr__ [Rt a b] cs = .ok (.pv (.str (rp a b))) ⟨[], cs⟩ := by
  have da := e_digits a (ha.mono (by decide)) []
  have db := e_digits b (hb.mono (by decide)) []
  have la := int_len ha
  have lb := int_len hb
  have ls : ("Ratio(" : Str).length = 6 := by decide +kernel
  have ls2 : (", " : Str).length = 2 := by decide +kernel
  have ls3 : (")" : Str).length = 1 := by decide +kernel
  unfold rp
  generalize (toString a : Str) = sa at *
  generalize (toString b : Str) = sb at *
  have l0 : ("Ratio(" : Str).length ≤ 16777216 := by omega
  have l1 : sa.length ≤ 16777216 := by omega
  have l2 : sb.length ≤ 16777216 := by omega
  have l3 : (("Ratio(" : Str) ++ sa).length ≤ 16777216 := by rw [s_len]; omega
  have l4 : (("Ratio(" : Str) ++ sa ++ (", " : Str)).length ≤ 16777216 := by rw [s_len, s_len]; omega
  have l5 : (("Ratio(" : Str) ++ sa ++ (", " : Str) ++ sb).length ≤ 16777216 := by rw [s_len, s_len, s_len]; omega
  have l6 : (("Ratio(" : Str) ++ sa ++ (", " : Str) ++ sb ++ (")" : Str)).length ≤ 16777216 := by rw [s_len, s_len, s_len, s_len]; omega
  simp only [d_Ratio___repr__, Rt, pvs, Option.map_some, Option.map_none, runB, List.map_cons, List.map_nil, List.length_cons, List.length_nil, List.cons_append, List.nil_append, List.append_nil, List.getElem?_cons_zero, List.getElem?_cons_succ, List.replicate_succ, List.replicate_zero, List.set_cons_zero, List.set_cons_succ, sSeq, sIf, thenS, bindE, tNotD, tB, dCall, callP, callS, callN, dVar, dCons, dNil, retE, badE, pick, List.filterMap_cons, List.filterMap_nil, sNil, tOrD, tAndD, dAndV, dOrV, dNotV, dBin, oEqP, plainEq, dC, rBl, rI, sSet, setSl, sRet, sRetN, sDrop, sFld, o2I, oAddI, oSub, oMulI, oDiv, oMod, oLt, oLe, oGt, oGe, oAddS, oAddL, oOwn, oEqO, oNeO, okEq, okRight, dFlip, dIf, dFld, dProp, dMethG, bad2, mkTup, mkLst, dIsi, ansOf, dFrz, frz, oIx, ixOf, oGcd, oAbs, oInt, oMax2, oMin2, sPar, sPar3, sAsg, gTupD, gsCons, gsNil, gSet, Bool.false_eq_true, ite_false, ite_true, if_true, if_false, reduceIte, Bool.not_true, Bool.not_false, beq_self_eq_true, and_self, and_true, true_and, Nat.reduceAdd, Nat.reduceSub, Nat.reduceEqDiff, Nat.reduceLT, Nat.reduceLeDiff, Nat.sub_self, Nat.zero_add, List.take_zero, decide_true, decide_false, aisi_int, aisi_bool, aisi_Ratio, aisi_list_tuple, Option.some.injEq, bad1, oNegI, oNegO, dJoin, dFmt, oStr, pSome, pNone, slS, oPow, oOwn1, callT, da, db, l0, l1, l2, s_empty, l3, l4, l5, l6]
/-! # the law's own look at a fraction -/
theorem e_reprL (s : Int) (hs : s = -1 ∨ s = 0 ∨ s = 1) (w : Bool) (e : StE) : oReprL badL [.pv (.lst [.int s, .bl w])] e = .ok (.pv (.str (PyData.shown (.list [.int s, .bool w])))) e := by
  have k : (PyData.list [.int s, .bool w]).showable = true ∧ (PyData.list [.int s, .bool w]).hasDict = false ∧ (PyData.list [.int s, .bool w]).depth ≤ 60 ∧ (PyData.list [.int s, .bool w]).shown.length ≤ 16777216 := by
    rcases hs with rfl | rfl | rfl <;> cases w <;> decide +kernel
  show (if (PyData.list [.int s, .bool w]).showable = true ∧ (PyData.list [.int s, .bool w]).hasDict = false ∧ (PyData.list [.int s, .bool w]).depth ≤ 60 ∧ (PyData.list [.int s, .bool w]).shown.length ≤ 16777216 then retE (.pv (.str (PyData.list [.int s, .bool w]).shown)) else badE : DE) e = _
  rw [if_pos k]
  rfl
theorem sgn (a : Int) : ((if decide (0 < a) = true then 1 else 0) - (if decide (a < 0) = true then 1 else 0) : Int) = -1 ∨ ((if decide (0 < a) = true then 1 else 0) - (if decide (a < 0) = true then 1 else 0) : Int) = 0 ∨ ((if decide (0 < a) = true then 1 else 0) - (if decide (a < 0) = true then 1 else 0) : Int) = 1 := by
  by_cases h1 : 0 < a
  · have : ¬ a < 0 := by omega
    simp [h1, this]
  · by_cases h2 : a < 0
    · simp [h1, h2]
    · simp [h1, h2]
theorem e_strI {a : Int} (ha : Bd 1900 a) (e : StE) : oOwn1 0 d_Ratio___str__ oStr [.pv (.int a)] e = .ok (.pv (.str (toString a))) e := by
  have : a.natAbs.log2 < 1920 := (ha.mono (by decide : 1900 ≤ 1920)).log (by decide)
  simp only [pvs, Option.map_some, Option.map_none, runB, List.map_cons, List.map_nil, List.length_cons, List.length_nil, List.cons_append, List.nil_append, List.append_nil, List.getElem?_cons_zero, List.getElem?_cons_succ, List.replicate_succ, List.replicate_zero, List.set_cons_zero, List.set_cons_succ, sSeq, sIf, thenS, bindE, tNotD, tB, dCall, callP, callS, callN, dVar, dCons, dNil, retE, badE, pick, List.filterMap_cons, List.filterMap_nil, sNil, tOrD, tAndD, dAndV, dOrV, dNotV, dBin, oEqP, plainEq, dC, rBl, rI, sSet, setSl, sRet, sRetN, sDrop, sFld, o2I, oAddI, oSub, oMulI, oDiv, oMod, oLt, oLe, oGt, oGe, oAddS, oAddL, oOwn, oEqO, oNeO, okEq, okRight, dFlip, dIf, dFld, dProp, dMethG, bad2, mkTup, mkLst, dIsi, ansOf, dFrz, frz, oIx, ixOf, oGcd, oAbs, oInt, oMax2, oMin2, sPar, sPar3, sAsg, gTupD, gsCons, gsNil, gSet, Bool.false_eq_true, ite_false, ite_true, if_true, if_false, reduceIte, Bool.not_true, Bool.not_false, beq_self_eq_true, and_self, and_true, true_and, Nat.reduceAdd, Nat.reduceSub, Nat.reduceEqDiff, Nat.reduceLT, Nat.reduceLeDiff, Nat.sub_self, Nat.zero_add, List.take_zero, decide_true, decide_false, aisi_int, aisi_bool, aisi_Ratio, aisi_list_tuple, Option.some.injEq, bad1, oNegI, oNegO, dJoin, dFmt, oStr, pSome, pNone, slS, oPow, oOwn1, callT, this]
theorem e_strR {a b : Int} (ha : Bd 1900 a) (hb : Bd 1900 b) (e : StE) : oOwn1 0 d_Ratio___str__ oStr [Rt a b] e = .ok (.pv (.str (wr a b))) e := by
  simp only [pvs, Option.map_some, Option.map_none, runB, List.map_cons, List.map_nil, List.length_cons, List.length_nil, List.cons_append, List.nil_append, List.append_nil, List.getElem?_cons_zero, List.getElem?_cons_succ, List.replicate_succ, List.replicate_zero, List.set_cons_zero, List.set_cons_succ, sSeq, sIf, thenS, bindE, tNotD, tB, dCall, callP, callS, callN, dVar, dCons, dNil, retE, badE, pick, List.filterMap_cons, List.filterMap_nil, sNil, tOrD, tAndD, dAndV, dOrV, dNotV, dBin, oEqP, plainEq, dC, rBl, rI, sSet, setSl, sRet, sRetN, sDrop, sFld, o2I, oAddI, oSub, oMulI, oDiv, oMod, oLt, oLe, oGt, oGe, oAddS, oAddL, oOwn, oEqO, oNeO, okEq, okRight, dFlip, dIf, dFld, dProp, dMethG, bad2, mkTup, mkLst, dIsi, ansOf, dFrz, frz, oIx, ixOf, oGcd, oAbs, oInt, oMax2, oMin2, sPar, sPar3, sAsg, gTupD, gsCons, gsNil, gSet, Bool.false_eq_true, ite_false, ite_true, if_true, if_false, reduceIte, Bool.not_true, Bool.not_false, beq_self_eq_true, and_self, and_true, true_and, Nat.reduceAdd, Nat.reduceSub, Nat.reduceEqDiff, Nat.reduceLT, Nat.reduceLeDiff, Nat.sub_self, Nat.zero_add, List.take_zero, decide_true, decide_false, aisi_int, aisi_bool, aisi_Ratio, aisi_list_tuple, Option.some.injEq, bad1, oNegI, oNegO, dJoin, dFmt, oStr, pSome, pNone, slS, oPow, oOwn1, callT, e_str ha hb]
theorem e_reprR {a b : Int} (ha : Bd 1900 a) (hb : Bd 1900 b) (e : StE) : oOwn1 0 d_Ratio___repr__ (oReprL badL) [Rt a b] e = .ok (.pv (.str (rp a b))) e := by
  simp only [pvs, Option.map_some, Option.map_none, runB, List.map_cons, List.map_nil, List.length_cons, List.length_nil, List.cons_append, List.nil_append, List.append_nil, List.getElem?_cons_zero, List.getElem?_cons_succ, List.replicate_succ, List.replicate_zero, List.set_cons_zero, List.set_cons_succ, sSeq, sIf, thenS, bindE, tNotD, tB, dCall, callP, callS, callN, dVar, dCons, dNil, retE, badE, pick, List.filterMap_cons, List.filterMap_nil, sNil, tOrD, tAndD, dAndV, dOrV, dNotV, dBin, oEqP, plainEq, dC, rBl, rI, sSet, setSl, sRet, sRetN, sDrop, sFld, o2I, oAddI, oSub, oMulI, oDiv, oMod, oLt, oLe, oGt, oGe, oAddS, oAddL, oOwn, oEqO, oNeO, okEq, okRight, dFlip, dIf, dFld, dProp, dMethG, bad2, mkTup, mkLst, dIsi, ansOf, dFrz, frz, oIx, ixOf, oGcd, oAbs, oInt, oMax2, oMin2, sPar, sPar3, sAsg, gTupD, gsCons, gsNil, gSet, Bool.false_eq_true, ite_false, ite_true, if_true, if_false, reduceIte, Bool.not_true, Bool.not_false, beq_self_eq_true, and_self, and_true, true_and, Nat.reduceAdd, Nat.reduceSub, Nat.reduceEqDiff, Nat.reduceLT, Nat.reduceLeDiff, Nat.sub_self, Nat.zero_add, List.take_zero, decide_true, decide_false, aisi_int, aisi_bool, aisi_Ratio, aisi_list_tuple, Option.some.injEq, bad1, oNegI, oNegO, dJoin, dFmt, oStr, pSome, pNone, slS, oPow, oOwn1, callT, e_repr ha hb]
theorem e_reprLs (s : Int) (hs : s = -1 ∨ s = 0 ∨ s = 1) (w : Bool) (e : StE) : oOwn1 0 d_Ratio___repr__ (oReprL badL) [.pv (.lst [.int s, .bl w])] e = .ok (.pv (.str (PyData.shown (.list [.int s, .bool w])))) e := e_reprL s hs w e
theorem e_law_is {t b top bot : Int} (ht : Bd 1900 t) (hb : Bd 1900 b) (htop : Bd 4000 top) (hbot : Bd 4000 bot) (h0 : 0 < b) (hg : Nat.gcd t.natAbs b.natAbs = 1) (hx : t * bot = top * b) (cs : Cs) :
    d__law_is [Rt t b, .pv (.int top), .pv (.int bot)] cs = .ok (.pv (.bl true)) ⟨[], cs⟩ := by
  have c0 : decide (b < 1) = false := decide_eq_false (by omega)
  have c1 : decide (top * b = top * b) = true := decide_eq_true rfl
  have g1 := lg ht hbot
  have g2 := lg htop hb
  have c2 : decide ((((1 : Nat)) : Int) = 1) = true := by decide
  have hbn : b ≠ 0 := by omega
  have mk := e_mk (t := if t < 0 then -t else t) hbn (hb.mono (by decide : 1900 ≤ 8000))
  have sz := e_size (a := t) (hb.mono (by decide : 1900 ≤ 2000)) hbn []
  have la := int_len ht
  have lb := int_len hb
  have sh := sgn t
  generalize hsg : ((if decide (0 < t) = true then 1 else 0) - (if decide (t < 0) = true then 1 else 0) : Int) = sg at sh
  have z1 : ("/" : Str).length = 1 := by decide +kernel
  have z2 : ("" : Str).length = 0 := by decide +kernel
  have z3 : ("Ratio(" : Str).length = 6 := by decide +kernel
  have z4 : (", " : Str).length = 2 := by decide +kernel
  have z5 : (")" : Str).length = 1 := by decide +kernel
  have l1 : (toString t : Str).length + (("/" : Str) ++ (toString b : Str)).length ≤ 16777216 := by rw [s_len]; omega
  have l2 : (toString t : Str).length + ("" : Str).length ≤ 16777216 := by omega
  have l3 : ("/" : Str).length + (toString b : Str).length ≤ 16777216 := by omega
  have l4 : ("Ratio(" : Str).length + (toString t : Str).length ≤ 16777216 := by omega
  have l5 : (("Ratio(" : Str) ++ (toString t : Str)).length + (", " : Str).length ≤ 16777216 := by rw [s_len]; omega
  have l6 : (("Ratio(" : Str) ++ (toString t : Str) ++ (", " : Str)).length + (toString b : Str).length ≤ 16777216 := by rw [s_len, s_len]; omega
  have l7 : (("Ratio(" : Str) ++ (toString t : Str) ++ (", " : Str) ++ (toString b : Str)).length + (")" : Str).length ≤ 16777216 := by rw [s_len, s_len, s_len]; omega
  have r1 := e_reprLs sg sh
  have le2 : (2 : Nat) ≤ 16777216 := by decide
  have common := e_common t b (hb.mono (by decide)) []
  rw [hg] at common
  by_cases h1 : b = 1
  · have d0 : decide (b = 1) = true := decide_eq_true h1
    have w0 : wr t b = (toString t : Str) ++ ("" : Str) := by rw [wr, if_pos h1, s_nil]
    have st := e_strR ht hb
    have rr := e_reprR ht hb
    rw [w0] at st
    unfold rp at rr
    simp only [d__law_is, Rp, oOwn, oEqO, oNeO, pvs, Option.map_some, Option.map_none, runB, List.map_cons, List.map_nil, List.length_cons, List.length_nil, List.cons_append, List.nil_append, List.append_nil, List.getElem?_cons_zero, List.getElem?_cons_succ, List.replicate_succ, List.replicate_zero, List.set_cons_zero, List.set_cons_succ, sSeq, sIf, thenS, bindE, tNotD, tB, dCall, callP, callS, callN, dVar, dCons, dNil, retE, badE, pick, List.filterMap_cons, List.filterMap_nil, sNil, tOrD, tAndD, dAndV, dOrV, dNotV, dBin, oEqP, plainEq, dC, rBl, rI, sSet, setSl, sRet, sRetN, sDrop, sFld, o2I, oAddI, oSub, oMulI, oDiv, oMod, oLt, oLe, oGt, oGe, oAddS, oAddL, oOwn, oEqO, oNeO, okEq, okRight, dFlip, dIf, dFld, dProp, dMethG, bad2, mkTup, mkLst, dIsi, ansOf, dFrz, frz, oIx, ixOf, oGcd, oAbs, oInt, oMax2, oMin2, sPar, sPar3, sAsg, gTupD, gsCons, gsNil, gSet, Bool.false_eq_true, ite_false, ite_true, if_true, if_false, reduceIte, Bool.not_true, Bool.not_false, beq_self_eq_true, and_self, and_true, true_and, Nat.reduceAdd, Nat.reduceSub, Nat.reduceEqDiff, Nat.reduceLT, Nat.reduceLeDiff, Nat.sub_self, Nat.zero_add, List.take_zero, decide_true, decide_false, aisi_int, aisi_bool, aisi_Ratio, aisi_list_tuple, Option.some.injEq, bad1, oNegI, oNegO, dJoin, dFmt, oStr, pSome, pNone, slS, oPow, callT, e_bottom, e_top, e_sign, e_whole, hsg, c0, hx, g1, g2, c1, common, c2, d0, l1, l2, l3, l4, l5, l6, l7, e_strI ht, e_strI hb, st, rr, r1, mk, sz, e_eq, eq_self, decide_true, Bool.and_self, le2]
  · have d0 : decide (b = 1) = false := decide_eq_false h1
    have w0 : wr t b = (toString t : Str) ++ (("/" : Str) ++ (toString b : Str)) := by rw [wr, if_neg h1]
    have st := e_strR ht hb
    have rr := e_reprR ht hb
    rw [w0] at st
    unfold rp at rr
    simp only [d__law_is, Rp, oOwn, oEqO, oNeO, pvs, Option.map_some, Option.map_none, runB, List.map_cons, List.map_nil, List.length_cons, List.length_nil, List.cons_append, List.nil_append, List.append_nil, List.getElem?_cons_zero, List.getElem?_cons_succ, List.replicate_succ, List.replicate_zero, List.set_cons_zero, List.set_cons_succ, sSeq, sIf, thenS, bindE, tNotD, tB, dCall, callP, callS, callN, dVar, dCons, dNil, retE, badE, pick, List.filterMap_cons, List.filterMap_nil, sNil, tOrD, tAndD, dAndV, dOrV, dNotV, dBin, oEqP, plainEq, dC, rBl, rI, sSet, setSl, sRet, sRetN, sDrop, sFld, o2I, oAddI, oSub, oMulI, oDiv, oMod, oLt, oLe, oGt, oGe, oAddS, oAddL, oOwn, oEqO, oNeO, okEq, okRight, dFlip, dIf, dFld, dProp, dMethG, bad2, mkTup, mkLst, dIsi, ansOf, dFrz, frz, oIx, ixOf, oGcd, oAbs, oInt, oMax2, oMin2, sPar, sPar3, sAsg, gTupD, gsCons, gsNil, gSet, Bool.false_eq_true, ite_false, ite_true, if_true, if_false, reduceIte, Bool.not_true, Bool.not_false, beq_self_eq_true, and_self, and_true, true_and, Nat.reduceAdd, Nat.reduceSub, Nat.reduceEqDiff, Nat.reduceLT, Nat.reduceLeDiff, Nat.sub_self, Nat.zero_add, List.take_zero, decide_true, decide_false, aisi_int, aisi_bool, aisi_Ratio, aisi_list_tuple, Option.some.injEq, bad1, oNegI, oNegO, dJoin, dFmt, oStr, pSome, pNone, slS, oPow, callT, e_bottom, e_top, e_sign, e_whole, hsg, c0, hx, g1, g2, c1, common, c2, d0, l1, l2, l3, l4, l5, l6, l7, e_strI ht, e_strI hb, st, rr, r1, mk, sz, e_eq, eq_self, decide_true, Bool.and_self, le2]
end Sh.Law
namespace Sh.Law
open PySem PySem.Spec Sh L2
/-! # fractions -/
structure Can (a b t q : Int) : Prop where
  is : R a b = Rt t q
  pos : 0 < q
  cop : Nat.gcd t.natAbs q.natAbs = 1
  eq : t * b = a * q
  bt : ∀ n, Bd n a → Bd n t
  bq : ∀ n, Bd n b → Bd n q
theorem canon (a b : Int) (hb : b ≠ 0) : ∃ t q, Can a b t q := by
  have gn := gd_ne (t := a) hb
  have ga := gd_abs a b
  have da : gd a b ∣ a := Int.natAbs_dvd_natAbs.mp (by rw [ga]; exact Nat.gcd_dvd_left _ _)
  have db : gd a b ∣ b := Int.natAbs_dvd_natAbs.mp (by rw [ga]; exact Nat.gcd_dvd_right _ _)
  obtain ⟨t, ht⟩ := da
  obtain ⟨q, hq⟩ := db
  have e1 : a.fdiv (gd a b) = t := by
    have := Int.mul_fdiv_cancel_left t gn
    rw [← ht] at this
    exact this
  have e2 : b.fdiv (gd a b) = q := by
    have := Int.mul_fdiv_cancel_left q gn
    rw [← hq] at this
    exact this
  have gp : 0 < (gd a b).natAbs := Int.natAbs_pos.mpr gn
  have at_ : a.natAbs = (gd a b).natAbs * t.natAbs := by
    have := congrArg Int.natAbs ht
    rwa [Int.natAbs_mul] at this
  have bq_ : b.natAbs = (gd a b).natAbs * q.natAbs := by
    have := congrArg Int.natAbs hq
    rwa [Int.natAbs_mul] at this
  refine ⟨t, q, ⟨by show SV.pv (Rp a b) = _; rw [Rp, e1, e2], ?_, ?_, ?_, fun n h => ?_, fun n h => ?_⟩⟩
  · by_cases hneg : b < 0
    · have gneg : gd a b < 0 := by
        have : gd a b = 0 - (Nat.gcd a.natAbs b.natAbs : Nat) := if_pos hneg
        omega
      rcases Int.lt_trichotomy q 0 with h | h | h
      · have := Int.mul_pos_of_neg_of_neg gneg h
        omega
      · subst h; simp at hq; omega
      · exact h
    · have gpos : 0 < gd a b := by
        have : gd a b = (Nat.gcd a.natAbs b.natAbs : Nat) := if_neg hneg
        omega
      rcases Int.lt_trichotomy q 0 with h | h | h
      · have := Int.mul_neg_of_pos_of_neg gpos h
        omega
      · subst h; simp at hq; omega
      · exact h
  · have : (gd a b).natAbs * Nat.gcd t.natAbs q.natAbs = (gd a b).natAbs * 1 := by
      rw [← Nat.gcd_mul_left, ← at_, ← bq_, Nat.mul_one, ga]
    exact Nat.eq_of_mul_eq_mul_left gp this
  · generalize gd a b = g at *
    rw [ht, hq]
    grind
  · unfold Bd at *
    rw [at_] at h
    exact Nat.lt_of_le_of_lt (Nat.le_mul_of_pos_left _ gp) h
  · unfold Bd at *
    rw [bq_] at h
    exact Nat.lt_of_le_of_lt (Nat.le_mul_of_pos_left _ gp) h
theorem e_is_R {P Q top bot : Int} (hQ : Q ≠ 0) (bP : Bd 1900 P) (bQ : Bd 1900 Q) (bt : Bd 4000 top) (bb : Bd 4000 bot) (hx : P * bot = top * Q) (cs : Cs) : d__law_is [R P Q, .pv (.int top), .pv (.int bot)] cs = .ok (.pv (.bl true)) ⟨[], cs⟩ := by
  obtain ⟨t, q, c⟩ := canon P Q hQ
  rw [c.is]
  refine e_law_is (c.bt _ bP) (c.bq _ bQ) bt bb c.pos c.cop ?_ cs
  have h1 := c.eq
  refine Int.eq_of_mul_eq_mul_left hQ ?_
  grind
theorem sign_eq {p q X Y : Int} (hp : 0 < p) (hq : 0 < q) (h : p * X = q * Y) : (X < 0 ↔ Y < 0) ∧ (X = 0 ↔ Y = 0) ∧ (0 < X ↔ 0 < Y) := by
  rcases Int.lt_trichotomy X 0 with hx | hx | hx <;> rcases Int.lt_trichotomy Y 0 with hy | hy | hy
  · exact ⟨by omega, by omega, by omega⟩
  · subst hy
    have := Int.mul_neg_of_pos_of_neg hp hx
    omega
  · have h1 := Int.mul_neg_of_pos_of_neg hp hx
    have h2 := Int.mul_pos hq hy
    omega
  · subst hx
    have := Int.mul_neg_of_pos_of_neg hq hy
    omega
  · exact ⟨by omega, by omega, by omega⟩
  · subst hx
    have := Int.mul_pos hq hy
    omega
  · have h1 := Int.mul_pos hp hx
    have h2 := Int.mul_neg_of_pos_of_neg hq hy
    omega
  · subst hy
    have := Int.mul_pos hp hx
    omega
  · exact ⟨by omega, by omega, by omega⟩
theorem sq_pos {x : Int} (h : x ≠ 0) : 0 < x * x := by
  rcases Int.lt_or_gt_of_ne h with z | z
  · exact Int.mul_pos_of_neg_of_neg z z
  · exact Int.mul_pos z z
/-- lowest terms are one and the same -/
theorem low_eq {t q u r : Int} (hq : 0 < q) (hr : 0 < r) (c1 : Nat.gcd t.natAbs q.natAbs = 1) (c2 : Nat.gcd u.natAbs r.natAbs = 1) (h : t * r = u * q) : t = u ∧ q = r := by
  have hn : t.natAbs * r.natAbs = u.natAbs * q.natAbs := by
    have := congrArg Int.natAbs h
    rwa [Int.natAbs_mul, Int.natAbs_mul] at this
  have d1 : q.natAbs ∣ r.natAbs := by
    have : q.natAbs ∣ t.natAbs * r.natAbs := by rw [hn]; exact Nat.dvd_mul_left _ _
    exact Nat.Coprime.dvd_of_dvd_mul_left (by rw [Nat.Coprime, Nat.gcd_comm]; exact c1) this
  have d2 : r.natAbs ∣ q.natAbs := by
    have : r.natAbs ∣ u.natAbs * q.natAbs := by rw [← hn]; exact Nat.dvd_mul_left _ _
    exact Nat.Coprime.dvd_of_dvd_mul_left (by rw [Nat.Coprime, Nat.gcd_comm]; exact c2) this
  have e : q.natAbs = r.natAbs := Nat.dvd_antisymm d1 d2
  have e' : q = r := by omega
  subst e'
  exact ⟨Int.eq_of_mul_eq_mul_right (by omega) h, rfl⟩
def oReprB (l : List Bool) : PyData := .list (l.map .bool)
theorem e_repr5 (a b c d e : Bool) (s : StE) : oOwn1 0 d_Ratio___repr__ (oReprL badL) [.pv (.lst [.bl a, .bl b, .bl c, .bl d, .bl e])] s = .ok (.pv (.str (oReprB [a, b, c, d, e]).shown)) s := by
  have k : (oReprB [a, b, c, d, e]).showable = true ∧ (oReprB [a, b, c, d, e]).hasDict = false ∧ (oReprB [a, b, c, d, e]).depth ≤ 60 ∧ (oReprB [a, b, c, d, e]).shown.length ≤ 16777216 := by
    cases a <;> cases b <;> cases c <;> cases d <;> cases e <;> decide +kernel
  show (if (oReprB [a, b, c, d, e]).showable = true ∧ (oReprB [a, b, c, d, e]).hasDict = false ∧ (oReprB [a, b, c, d, e]).depth ≤ 60 ∧ (oReprB [a, b, c, d, e]).shown.length ≤ 16777216 then retE (.pv (.str (oReprB [a, b, c, d, e]).shown)) else badE : DE) s = _
  rw [if_pos k]
  rfl
theorem e_repr2 (a b : Bool) (s : StE) : oOwn1 0 d_Ratio___repr__ (oReprL badL) [.pv (.lst [.bl a, .bl b])] s = .ok (.pv (.str (oReprB [a, b]).shown)) s := by
  have k : (oReprB [a, b]).showable = true ∧ (oReprB [a, b]).hasDict = false ∧ (oReprB [a, b]).depth ≤ 60 ∧ (oReprB [a, b]).shown.length ≤ 16777216 := by
    cases a <;> cases b <;> decide +kernel
  show (if (oReprB [a, b]).showable = true ∧ (oReprB [a, b]).hasDict = false ∧ (oReprB [a, b]).depth ≤ 60 ∧ (oReprB [a, b]).shown.length ≤ 16777216 then retE (.pv (.str (oReprB [a, b]).shown)) else badE : DE) s = _
  rw [if_pos k]
  rfl
end Sh.Law
namespace Sh.Law
open PySem PySem.Spec Sh L2
theorem at0 {α : Type} (x y : α) : atI [x, y] 0 = some x := rfl
theorem at1 {α : Type} (x y : α) : atI [x, y] 1 = some y := rfl
theorem nz_mul {x y : Int} (hx : x ≠ 0) (hy : y ≠ 0) : x * y ≠ 0 := Int.mul_ne_zero hx hy
abbrev tp (a b : Int) : SV := .pv (.tup [.int a, .int b])
theorem cmp_facts {a b c d t q u r : Int} (hb : b ≠ 0) (hd : d ≠ 0) (C1 : Can a b t q) (C2 : Can c d u r) :
    decide (t * r < u * q) = decide ((a * d - c * b) * b * d < 0) ∧ decide (t * r ≤ u * q) = decide ((a * d - c * b) * b * d ≤ 0) ∧ decide (u * q < t * r) = decide (0 < (a * d - c * b) * b * d) ∧
    (decide (t = u) && decide (q = r)) = decide ((a * d - c * b) * b * d = 0) := by
  have e1 := C1.eq
  have e2 := C2.eq
  have key : q * r * ((a * d - c * b) * b * d) = (b * d) * (b * d) * (t * r - u * q) := by grind
  obtain ⟨s1, s2, s3⟩ := sign_eq (Int.mul_pos C1.pos C2.pos) (sq_pos (nz_mul hb hd)) key
  refine ⟨?_, ?_, ?_, ?_⟩
  · exact decide_eq_decide.mpr ⟨fun h => s1.mpr (by omega), fun h => by have := s1.mp h; omega⟩
  · refine decide_eq_decide.mpr ⟨fun h => ?_, fun h => ?_⟩
    · rcases Int.lt_or_eq_of_le h with z | z
      · have := s1.mpr (by omega); omega
      · have := s2.mpr (by omega); omega
    · rcases Int.lt_or_eq_of_le h with z | z
      · have := s1.mp z; omega
      · have := s2.mp z; omega
  · exact decide_eq_decide.mpr ⟨fun h => s3.mpr (by omega), fun h => by have := s3.mp h; omega⟩
  · rw [← Bool.decide_and]
    refine decide_eq_decide.mpr ⟨fun ⟨h1, h2⟩ => s2.mpr (by rw [h1, h2]; omega), fun h => ?_⟩
    have := s2.mp h
    exact low_eq C1.pos C2.pos C1.cop C2.cop (by omega)
theorem e_two {a b c d : Int} (ba : Bd 400 a) (bb : Bd 400 b) (bc : Bd 400 c) (bd : Bd 400 d) (hb : b ≠ 0) (hd : d ≠ 0) (cs : Cs) : d__law_two_right [tp a b, tp c d] cs = .ok (.pv (.bl true)) ⟨[], cs⟩ := by
  obtain ⟨t, q, C1⟩ := canon a b hb
  obtain ⟨u, r, C2⟩ := canon c d hd
  have mk1 := e_mk (t := a) hb (bb.mono (by decide : 400 ≤ 8000))
  have mk2 := e_mk (t := c) hd (bd.mono (by decide : 400 ≤ 8000))
  rw [C1.is] at mk1
  rw [C2.is] at mk2
  have bt := C1.bt _ ba
  have bq := C1.bq _ bb
  have bu := C2.bt _ bc
  have br := C2.bq _ bd
  have hq : q ≠ 0 := by have := C1.pos; omega
  have hr : r ≠ 0 := by have := C2.pos; omega
  have hqr := nz_mul hq hr
  have e1 := C1.eq
  have e2 := C2.eq
  have M := @Bd.mono
  have i1 := e_law_is (top := a) (bot := b) (M bt (by decide)) (M bq (by decide)) (M ba (by decide)) (M bb (by decide)) C1.pos C1.cop e1
  have P := pr_r u r
  have P' := pr_r t q
  have t2 := M bt (by decide : 400 ≤ 2000)
  have q2 := M bq (by decide : 400 ≤ 2000)
  have u2 := M bu (by decide : 400 ≤ 2000)
  have r2 := M br (by decide : 400 ≤ 2000)
  have o1 := e_add P t2 q2 u2 r2 hqr
  have o2 := e_sub P t2 q2 u2 r2 hqr
  have o3 := e_mul P t2 q2 u2 r2 hqr
  have o4 := e_neg (a := t) q2 hq
  have o5 := e_below P t2 q2 u2 r2 hqr
  have o6 := e_atmost P t2 q2 u2 r2 hqr
  have o7 := e_below P' u2 r2 t2 q2 (nz_mul hr hq)
  have i2 := e_is_R (top := a * d + c * b) (bot := b * d) hqr (M ((bt.mul br).add (bu.mul bq)) (by decide)) (M (bq.mul br) (by decide)) (M ((ba.mul bd).add (bc.mul bb)) (by decide)) (M (bb.mul bd) (by decide)) (by grind)
  have i3 := e_is_R (top := a * d - c * b) (bot := b * d) hqr (M ((bt.mul br).sub (bu.mul bq)) (by decide)) (M (bq.mul br) (by decide)) (M ((ba.mul bd).sub (bc.mul bb)) (by decide)) (M (bb.mul bd) (by decide)) (by grind)
  have i4 := e_is_R (top := a * c) (bot := b * d) hqr (M (bt.mul bu) (by decide)) (M (bq.mul br) (by decide)) (M (ba.mul bc) (by decide)) (M (bb.mul bd) (by decide)) (by grind)
  have i5 := e_is_R (P := 0 - t) (Q := q) (top := 0 - a) (bot := b) hq (M bt.neg (by decide)) (M bq (by decide)) (M ba.neg (by decide)) (M bb (by decide)) (by grind)
  obtain ⟨k1, k2, k3, k4⟩ := cmp_facts hb hd C1 C2
  have g1 := lg ba bd
  have g2 := lg bc bb
  have g3 := lg bb bd
  have g4 := lg ba bc
  have g5 := lg bb bc
  have g6 := lg ((ba.mul bd).sub (bc.mul bb)) bb
  have g7 := lg (((ba.mul bd).sub (bc.mul bb)).mul bb) bd
  by_cases hc : c = 0
  · have d0 : decide (c = 0) = true := decide_eq_true hc
    simp only [d__law_two_right, tp, at0, at1, e_strI, oOwn, oEqO, oNeO, pvs, Option.map_some, Option.map_none, runB, List.map_cons, List.map_nil, List.length_cons, List.length_nil, List.cons_append, List.nil_append, List.append_nil, List.getElem?_cons_zero, List.getElem?_cons_succ, List.replicate_succ, List.replicate_zero, List.set_cons_zero, List.set_cons_succ, sSeq, sIf, thenS, bindE, tNotD, tB, dCall, callP, callS, callN, dVar, dCons, dNil, retE, badE, pick, List.filterMap_cons, List.filterMap_nil, sNil, tOrD, tAndD, dAndV, dOrV, dNotV, dBin, oEqP, plainEq, dC, rBl, rI, sSet, setSl, sRet, sRetN, sDrop, sFld, o2I, oAddI, oSub, oMulI, oDiv, oMod, oLt, oLe, oGt, oGe, oAddS, oAddL, oOwn, oEqO, oNeO, okEq, okRight, dFlip, dIf, dFld, dProp, dMethG, bad2, mkTup, mkLst, dIsi, ansOf, dFrz, frz, oIx, ixOf, oGcd, oAbs, oInt, oMax2, oMin2, sPar, sPar3, sAsg, gTupD, gsCons, gsNil, gSet, Bool.false_eq_true, ite_false, ite_true, if_true, if_false, reduceIte, Bool.not_true, Bool.not_false, beq_self_eq_true, and_self, and_true, true_and, Nat.reduceAdd, Nat.reduceSub, Nat.reduceEqDiff, Nat.reduceLT, Nat.reduceLeDiff, Nat.sub_self, Nat.zero_add, List.take_zero, decide_true, decide_false, aisi_int, aisi_bool, aisi_Ratio, aisi_list_tuple, Option.some.injEq, bad1, oNegI, oNegO, dJoin, dFmt, oStr, pSome, pNone, slS, oPow, callT, mk1, mk2, i1, i2, i3, i4, i5, o1, o2, o3, o4, o5, o6, o7, e_eq, k1, k2, k3, k4, g1, g2, g3, g4, g5, g6, g7, d0, e_repr5, eq_self, decide_true]
  · have d0 : decide (c = 0) = false := decide_eq_false hc
    have hu : u ≠ 0 := fun z => by
      rw [z] at e2
      have : c * r = 0 := by rw [← e2]; omega
      rcases Int.mul_eq_zero.mp this with z | z
      · exact hc z
      · exact hr z
    have o8 := e_over P t2 q2 u2 r2 hu (nz_mul hq hu)
    have i6 := e_is_R (top := a * d) (bot := b * c) (nz_mul hq hu) (M (bt.mul br) (by decide)) (M (bq.mul bu) (by decide)) (M (ba.mul bd) (by decide)) (M (bb.mul bc) (by decide)) (by
      refine Int.eq_of_mul_eq_mul_left hr ?_
      grind)
    simp only [d__law_two_right, tp, at0, at1, e_strI, oOwn, oEqO, oNeO, pvs, Option.map_some, Option.map_none, runB, List.map_cons, List.map_nil, List.length_cons, List.length_nil, List.cons_append, List.nil_append, List.append_nil, List.getElem?_cons_zero, List.getElem?_cons_succ, List.replicate_succ, List.replicate_zero, List.set_cons_zero, List.set_cons_succ, sSeq, sIf, thenS, bindE, tNotD, tB, dCall, callP, callS, callN, dVar, dCons, dNil, retE, badE, pick, List.filterMap_cons, List.filterMap_nil, sNil, tOrD, tAndD, dAndV, dOrV, dNotV, dBin, oEqP, plainEq, dC, rBl, rI, sSet, setSl, sRet, sRetN, sDrop, sFld, o2I, oAddI, oSub, oMulI, oDiv, oMod, oLt, oLe, oGt, oGe, oAddS, oAddL, oOwn, oEqO, oNeO, okEq, okRight, dFlip, dIf, dFld, dProp, dMethG, bad2, mkTup, mkLst, dIsi, ansOf, dFrz, frz, oIx, ixOf, oGcd, oAbs, oInt, oMax2, oMin2, sPar, sPar3, sAsg, gTupD, gsCons, gsNil, gSet, Bool.false_eq_true, ite_false, ite_true, if_true, if_false, reduceIte, Bool.not_true, Bool.not_false, beq_self_eq_true, and_self, and_true, true_and, Nat.reduceAdd, Nat.reduceSub, Nat.reduceEqDiff, Nat.reduceLT, Nat.reduceLeDiff, Nat.sub_self, Nat.zero_add, List.take_zero, decide_true, decide_false, aisi_int, aisi_bool, aisi_Ratio, aisi_list_tuple, Option.some.injEq, bad1, oNegI, oNegO, dJoin, dFmt, oStr, pSome, pNone, slS, oPow, callT, mk1, mk2, i1, i2, i3, i4, i5, i6, o1, o2, o3, o4, o5, o6, o7, o8, e_eq, k1, k2, k3, k4, g1, g2, g3, g4, g5, g6, g7, d0, e_repr5, eq_self, decide_true]
end Sh.Law
namespace Sh.Law
open PySem PySem.Spec Sh L2
theorem e_whole_right {a b w : Int} (ba : Bd 400 a) (bb : Bd 400 b) (bw : Bd 400 w) (hb : b ≠ 0) (cs : Cs) : d__law_whole_right [tp a b, .pv (.int w)] cs = .ok (.pv (.bl true)) ⟨[], cs⟩ := by
  obtain ⟨t, q, C1⟩ := canon a b hb
  have mk1 := e_mk (t := a) hb (bb.mono (by decide : 400 ≤ 8000))
  rw [C1.is] at mk1
  have b1 : Bd 400 (1 : Int) := by unfold Bd; decide +kernel
  have mk2 := e_mk (t := w) (b := 1) (by decide) (b1.mono (by decide : 400 ≤ 8000))
  have bt := C1.bt _ ba
  have bq := C1.bq _ bb
  have hq : q ≠ 0 := by have := C1.pos; omega
  have hq1 : q * 1 ≠ 0 := by omega
  have e1 := C1.eq
  have M := @Bd.mono
  have P := pr_i w
  have t2 := M bt (by decide : 400 ≤ 2000)
  have q2 := M bq (by decide : 400 ≤ 2000)
  have w2 := M bw (by decide : 400 ≤ 2000)
  have o2_ := M b1 (by decide : 400 ≤ 2000)
  have o1 := e_add P t2 q2 w2 o2_ hq1
  have o2 := e_radd P t2 q2 w2 o2_ hq1
  have o3 := e_rsub P t2 q2 w2 o2_ hq1
  have o4 := e_sub P t2 q2 w2 o2_ hq1
  have o5 := e_mul P t2 q2 w2 o2_ hq1
  have o6 := e_rmul P t2 q2 w2 o2_ hq1
  have o7 := e_below P t2 q2 w2 o2_ hq1
  have o8 := e_atmost P t2 q2 w2 o2_ hq1
  have i1 := e_is_R (P := t * 1 + w * q) (top := a + w * b) (bot := b) hq1 (M ((bt.mul b1).add (bw.mul bq)) (by decide)) (M (bq.mul b1) (by decide)) (M ((M ba (by decide : 400 ≤ 800)).add (bw.mul bb)) (by decide)) (M bb (by decide)) (by grind)
  have i2 := e_is_R (P := w * q - t * 1) (top := w * b - a) (bot := b) hq1 (M ((bw.mul bq).sub (bt.mul b1)) (by decide)) (M (bq.mul b1) (by decide)) (M ((bw.mul bb).sub (M ba (by decide : 400 ≤ 800))) (by decide)) (M bb (by decide)) (by grind)
  have i3 := e_is_R (P := t * 1 - w * q) (top := a - w * b) (bot := b) hq1 (M ((bt.mul b1).sub (bw.mul bq)) (by decide)) (M (bq.mul b1) (by decide)) (M ((M ba (by decide : 400 ≤ 800)).sub (bw.mul bb)) (by decide)) (M bb (by decide)) (by grind)
  have i4 := e_is_R (P := t * w) (top := w * a) (bot := b) hq1 (M (bt.mul bw) (by decide)) (M (bq.mul b1) (by decide)) (M (bw.mul ba) (by decide)) (M bb (by decide)) (by grind)
  have i5 := e_is_R (P := w) (Q := 1) (top := w) (bot := 1) (by decide) (M bw (by decide)) (M b1 (by decide)) (M bw (by decide)) (M b1 (by decide)) rfl
  have key : q * ((a - w * b) * b) = (b * b) * (t * 1 - w * q) := by grind
  obtain ⟨s1, s2, s3⟩ := sign_eq C1.pos (sq_pos hb) key
  have k1 : decide (t * 1 < w * q) = decide ((a - w * b) * b < 0) := decide_eq_decide.mpr ⟨fun h => s1.mpr (by omega), fun h => by have := s1.mp h; omega⟩
  have k2 : decide (t * 1 ≤ w * q) = decide ((a - w * b) * b ≤ 0) := by
    refine decide_eq_decide.mpr ⟨fun h => ?_, fun h => ?_⟩
    · rcases Int.lt_or_eq_of_le h with z | z
      · have := s1.mpr (by omega); omega
      · have := s2.mpr (by omega); omega
    · rcases Int.lt_or_eq_of_le h with z | z
      · have := s1.mp z; omega
      · have := s2.mp z; omega
  have g1 := lg bw bb
  have g2 := lg bw ba
  have g3 := lg bb bw
  have g4 := lg ((M ba (by decide : 400 ≤ 800)).sub (bw.mul bb)) bb
  by_cases hc : w = 0
  · have d0 : decide (w = 0) = true := decide_eq_true hc
    simp only [d__law_whole_right, tp, at0, at1, oOwn, oEqO, oNeO, oIsB, pvs, Option.map_some, Option.map_none, runB, List.map_cons, List.map_nil, List.length_cons, List.length_nil, List.cons_append, List.nil_append, List.append_nil, List.getElem?_cons_zero, List.getElem?_cons_succ, List.replicate_succ, List.replicate_zero, List.set_cons_zero, List.set_cons_succ, sSeq, sIf, thenS, bindE, tNotD, tB, dCall, callP, callS, callN, dVar, dCons, dNil, retE, badE, pick, List.filterMap_cons, List.filterMap_nil, sNil, tOrD, tAndD, dAndV, dOrV, dNotV, dBin, oEqP, plainEq, dC, rBl, rI, sSet, setSl, sRet, sRetN, sDrop, sFld, o2I, oAddI, oSub, oMulI, oDiv, oMod, oLt, oLe, oGt, oGe, oAddS, oAddL, oOwn, oEqO, oNeO, okEq, okRight, dFlip, dIf, dFld, dProp, dMethG, bad2, mkTup, mkLst, dIsi, ansOf, dFrz, frz, oIx, ixOf, oGcd, oAbs, oInt, oMax2, oMin2, sPar, sPar3, sAsg, gTupD, gsCons, gsNil, gSet, Bool.false_eq_true, ite_false, ite_true, if_true, if_false, reduceIte, Bool.not_true, Bool.not_false, beq_self_eq_true, and_self, and_true, true_and, Nat.reduceAdd, Nat.reduceSub, Nat.reduceEqDiff, Nat.reduceLT, Nat.reduceLeDiff, Nat.sub_self, Nat.zero_add, List.take_zero, decide_true, decide_false, aisi_int, aisi_bool, aisi_Ratio, aisi_list_tuple, Option.some.injEq, bad1, oNegI, oNegO, dJoin, dFmt, oStr, pSome, pNone, slS, oPow, callT, mk1, mk2, i1, i2, i3, i4, i5, o1, o2, o3, o4, o5, o6, o7, o8, e_eqi, k1, k2, g1, g2, g3, g4, d0, e_repr2, eq_self, decide_true]
  · have d0 : decide (w = 0) = false := decide_eq_false hc
    have o9 := e_over P t2 q2 w2 o2_ hc (nz_mul hq hc)
    have i6 := e_is_R (P := t * 1) (top := a) (bot := b * w) (nz_mul hq hc) (M (bt.mul b1) (by decide)) (M (bq.mul bw) (by decide)) (M ba (by decide)) (M (bb.mul bw) (by decide)) (by grind)
    simp only [d__law_whole_right, tp, at0, at1, oOwn, oEqO, oNeO, oIsB, pvs, Option.map_some, Option.map_none, runB, List.map_cons, List.map_nil, List.length_cons, List.length_nil, List.cons_append, List.nil_append, List.append_nil, List.getElem?_cons_zero, List.getElem?_cons_succ, List.replicate_succ, List.replicate_zero, List.set_cons_zero, List.set_cons_succ, sSeq, sIf, thenS, bindE, tNotD, tB, dCall, callP, callS, callN, dVar, dCons, dNil, retE, badE, pick, List.filterMap_cons, List.filterMap_nil, sNil, tOrD, tAndD, dAndV, dOrV, dNotV, dBin, oEqP, plainEq, dC, rBl, rI, sSet, setSl, sRet, sRetN, sDrop, sFld, o2I, oAddI, oSub, oMulI, oDiv, oMod, oLt, oLe, oGt, oGe, oAddS, oAddL, oOwn, oEqO, oNeO, okEq, okRight, dFlip, dIf, dFld, dProp, dMethG, bad2, mkTup, mkLst, dIsi, ansOf, dFrz, frz, oIx, ixOf, oGcd, oAbs, oInt, oMax2, oMin2, sPar, sPar3, sAsg, gTupD, gsCons, gsNil, gSet, Bool.false_eq_true, ite_false, ite_true, if_true, if_false, reduceIte, Bool.not_true, Bool.not_false, beq_self_eq_true, and_self, and_true, true_and, Nat.reduceAdd, Nat.reduceSub, Nat.reduceEqDiff, Nat.reduceLT, Nat.reduceLeDiff, Nat.sub_self, Nat.zero_add, List.take_zero, decide_true, decide_false, aisi_int, aisi_bool, aisi_Ratio, aisi_list_tuple, Option.some.injEq, bad1, oNegI, oNegO, dJoin, dFmt, oStr, pSome, pNone, slS, oPow, callT, mk1, mk2, i1, i2, i3, i4, i5, i6, o1, o2, o3, o4, o5, o6, o7, o8, o9, e_eqi, k1, k2, g1, g2, g3, g4, d0, e_repr2, eq_self, decide_true]
end Sh.Law
namespace Sh.Law
open PySem PySem.Spec Sh L2
/-! # totals -/
/-- a number that was told: as it stands, c / d by the law, u / r as a fraction -/
structure En where
  p : PV
  c : Int
  d : Int
  u : Int
  r : Int
structure EnOk (x : En) : Prop where
  want : ∀ cs, d_want_number [.pv x.p] cs = .ok (Rt x.u x.r) ⟨[], cs⟩
  pos : 0 < x.r
  eq : x.u * x.d = x.c * x.r
  bu : Bd 400 x.u
  br : Bd 400 x.r
  bc : Bd 400 x.c
  bd : Bd 400 x.d
  nz : x.d ≠ 0
def tb : List En → Int × Int → Int × Int
  | [], a => a
  | x :: L, a => tb L (a.1 * x.d + x.c * a.2, a.2 * x.d)
theorem tb_snoc : ∀ (L : List En) (x : En) (a : Int × Int), tb (L ++ [x]) a = ((tb L a).1 * x.d + x.c * (tb L a).2, (tb L a).2 * x.d)
  | [], _, _ => rfl
  | _ :: L, x, a => tb_snoc L x _
abbrev rt (x : En) : PV := .ins 0 [.int x.u, .int x.r]
def addB : DS := sSet 1 (dBin (oAddI (oAddS (oAddL (oOwn 0 d_Ratio___add__ d_Ratio___radd__ bad2)))) (dVar 1) (dVar 2))
theorem tot_loop (Z : SV) (cs : Cs) : ∀ (L : List En), (∀ x ∈ L, EnOk x) → ∀ (t q : Int) (a : Int × Int) (m : Nat) (o : Option SV), Bd m t → Bd m q → Bd m a.1 → Bd m a.2 → m + 401 * L.length ≤ 1900 → 0 < q → Nat.gcd t.natAbs q.natAbs = 1 → a.2 ≠ 0 → t * a.2 = a.1 * q →
    ∃ T Q o', loopF (gSet 2) addB (L.map rt) ⟨[some Z, some (Rt t q), o], cs⟩ = .ok .nx ⟨[some Z, some (Rt T Q), o'], cs⟩ ∧ 0 < Q ∧ Nat.gcd T.natAbs Q.natAbs = 1 ∧ T * (tb L a).2 = (tb L a).1 * Q ∧ Bd 1900 T ∧ Bd 1900 Q ∧ Bd 1900 (tb L a).1 ∧ Bd 1900 (tb L a).2
  | [], _, t, q, a, m, o, bt, bq, b1, b2, hm, hq, hg, hz, he => ⟨t, q, o, rfl, hq, hg, he, bt.mono (by omega), bq.mono (by omega), b1.mono (by omega), b2.mono (by omega)⟩
  | x :: L, hL, t, q, a, m, o, bt, bq, b1, b2, hm, hq, hg, hz, he => by
    have ok := hL x List.mem_cons_self
    rw [List.length_cons] at hm
    have hr : x.r ≠ 0 := by have := ok.pos; omega
    have hqr : q * x.r ≠ 0 := nz_mul (by omega) hr
    have o1 := e_add (pr_r x.u x.r) (bt.mono (by omega : m ≤ 2000)) (bq.mono (by omega : m ≤ 2000)) (ok.bu.mono (by decide)) (ok.br.mono (by decide)) hqr
    obtain ⟨T, Q, C⟩ := canon (t * x.r + x.u * q) (q * x.r) hqr
    have hx := C.eq
    have he' := ok.eq
    have step : addB ⟨[some Z, some (Rt t q), some (.pv (rt x))], cs⟩ = .ok .nx ⟨[some Z, some (Rt T Q), some (.pv (rt x))], cs⟩ := by
      have hR : Rp (t * x.r + x.u * q) (q * x.r) = .ins 0 [.int T, .int Q] := by
        have := C.is
        injection this
      simp only [addB, rt, oOwn, pvs, Option.map_some, Option.map_none, runB, List.map_cons, List.map_nil, List.length_cons, List.length_nil, List.cons_append, List.nil_append, List.append_nil, List.getElem?_cons_zero, List.getElem?_cons_succ, List.replicate_succ, List.replicate_zero, List.set_cons_zero, List.set_cons_succ, sSeq, sIf, thenS, bindE, tNotD, tB, dCall, callP, callS, callN, dVar, dCons, dNil, retE, badE, pick, List.filterMap_cons, List.filterMap_nil, sNil, tOrD, tAndD, dAndV, dOrV, dNotV, dBin, oEqP, plainEq, dC, rBl, rI, sSet, setSl, sRet, sRetN, sDrop, sFld, o2I, oAddI, oSub, oMulI, oDiv, oMod, oLt, oLe, oGt, oGe, oAddS, oAddL, oOwn, oEqO, oNeO, okEq, okRight, dFlip, dIf, dFld, dProp, dMethG, bad2, mkTup, mkLst, dIsi, ansOf, dFrz, frz, oIx, ixOf, oGcd, oAbs, oInt, oMax2, oMin2, sPar, sPar3, sAsg, gTupD, gsCons, gsNil, gSet, Bool.false_eq_true, ite_false, ite_true, if_true, if_false, reduceIte, Bool.not_true, Bool.not_false, beq_self_eq_true, and_self, and_true, true_and, Nat.reduceAdd, Nat.reduceSub, Nat.reduceEqDiff, Nat.reduceLT, Nat.reduceLeDiff, Nat.sub_self, Nat.zero_add, List.take_zero, decide_true, decide_false, aisi_int, aisi_bool, aisi_Ratio, aisi_list_tuple, Option.some.injEq, bad1, oNegI, oNegO, dJoin, dFmt, oStr, pSome, pNone, slS, oPow, callT, o1, hR]
    have bT : Bd (m + 401) T := C.bt _ (Bd.add (n := m + 400) (bt.mul ok.br) ((ok.bu.mul bq).mono (by omega)))
    have bQ : Bd (m + 401) Q := C.bq _ ((bq.mul ok.br).mono (by omega))
    obtain ⟨T', Q', o', h1, h2⟩ := tot_loop Z cs L (fun y hy => hL y (List.mem_cons_of_mem _ hy)) T Q (a.1 * x.d + x.c * a.2, a.2 * x.d) (m + 401) (some (.pv (rt x))) bT bQ
      (Bd.add (n := m + 400) (b1.mul ok.bd) ((ok.bc.mul b2).mono (by omega))) ((b2.mul ok.bd).mono (by omega)) (by omega) C.pos C.cop (nz_mul hz ok.nz) (by
        refine Int.eq_of_mul_eq_mul_left hqr ?_
        dsimp only
        grind)
    refine ⟨T', Q', o', ?_, h2⟩
    show (match gSet 2 (.pv (rt x)) ⟨[some Z, some (Rt t q), o], cs⟩ with
      | .ok _ e1 => loopK (loopF (gSet 2) addB (L.map rt)) (addB e1)
      | .exc c fs e1 => .exc c fs e1
      | .bad => .bad) = _
    have g0 : gSet 2 (.pv (rt x)) ⟨[some Z, some (Rt t q), o], cs⟩ = .ok () ⟨[some Z, some (Rt t q), some (.pv (rt x))], cs⟩ := rfl
    rw [g0]
    dsimp only
    rw [step]
    exact h1
theorem r01 : Rp 0 1 = .ins 0 [.int 0, .int 1] := by
  have h : gd 0 1 = 1 := by decide +kernel
  unfold Rp
  rw [h]
  rfl
theorem e_total_of (L : List En) (hL : ∀ x ∈ L, EnOk x) (hl : L.length ≤ 4) (cs : Cs) : ∃ T Q, d_total_of [.pv (.lst (L.map rt))] cs = .ok (Rt T Q) ⟨[], cs⟩ ∧ 0 < Q ∧ Nat.gcd T.natAbs Q.natAbs = 1 ∧ T * (tb L (0, 1)).2 = (tb L (0, 1)).1 * Q ∧ Bd 1900 T ∧ Bd 1900 Q ∧ Bd 1900 (tb L (0, 1)).1 ∧ Bd 1900 (tb L (0, 1)).2 := by
  obtain ⟨T, Q, o', h1, h2⟩ := tot_loop (.pv (.lst (L.map rt))) cs L hL 0 1 (0, 1) 1 none (by unfold Bd; decide) (by unfold Bd; decide) (by unfold Bd; decide) (by unfold Bd; decide) (by omega) (by decide) (by decide) (by decide) (by decide)
  refine ⟨T, Q, ?_, h2⟩
  have mk := e_mk (t := 0) (b := 1) (by decide) (by unfold Bd; decide +kernel)
  simp only [R, r01] at mk
  unfold d_total_of
  change runB 3 (sSeq _ (sSeq (sFor _ (gSet 2) addB) _)) _ _ = _
  simp only [pvs, Option.map_some, Option.map_none, runB, List.map_cons, List.map_nil, List.length_cons, List.length_nil, List.cons_append, List.nil_append, List.append_nil, List.getElem?_cons_zero, List.getElem?_cons_succ, List.replicate_succ, List.replicate_zero, List.set_cons_zero, List.set_cons_succ, sSeq, sIf, thenS, bindE, tNotD, tB, dCall, callP, callS, callN, dVar, dCons, dNil, retE, badE, pick, List.filterMap_cons, List.filterMap_nil, sNil, tOrD, tAndD, dAndV, dOrV, dNotV, dBin, oEqP, plainEq, dC, rBl, rI, sSet, setSl, sRet, sRetN, sDrop, sFld, o2I, oAddI, oSub, oMulI, oDiv, oMod, oLt, oLe, oGt, oGe, oAddS, oAddL, oOwn, oEqO, oNeO, okEq, okRight, dFlip, dIf, dFld, dProp, dMethG, bad2, mkTup, mkLst, dIsi, ansOf, dFrz, frz, oIx, ixOf, oGcd, oAbs, oInt, oMax2, oMin2, sPar, sPar3, sAsg, gTupD, gsCons, gsNil, gSet, Bool.false_eq_true, ite_false, ite_true, if_true, if_false, reduceIte, Bool.not_true, Bool.not_false, beq_self_eq_true, and_self, and_true, true_and, Nat.reduceAdd, Nat.reduceSub, Nat.reduceEqDiff, Nat.reduceLT, Nat.reduceLeDiff, Nat.sub_self, Nat.zero_add, List.take_zero, decide_true, decide_false, aisi_int, aisi_bool, aisi_Ratio, aisi_list_tuple, Option.some.injEq, bad1, oNegI, oNegO, dJoin, dFmt, oStr, pSome, pNone, slS, oPow, oOwn1, callT, mk, sFor, dItemsA]
  rw [h1]
  rfl
def wantE : DE := (dCall [0] [] (callP d_want_number) (bindE (dCons (dVar 2) dNil) fun xs => if xs.length = 1 then retE xs else badE))
theorem lc_want (x0 x1 : SV) : ∀ (L : List En), (∀ x ∈ L, EnOk x) → ∀ acc : List PV, acc.length + L.length ≤ 1000 →
    lcF 0 [2] (gSet 2) dYes wantE (L.map (·.p)) ⟨[some x0, some x1, none], [some (.l (acc.map .pv))]⟩ = .ok () ⟨[some x0, some x1, none], [some (.l ((acc ++ L.map rt).map .pv))]⟩
  | [], _, acc, _ => by simp [lcF]
  | x :: L, hL, acc, hl => by
    have ok := hL x List.mem_cons_self
    rw [List.length_cons] at hl
    have w := ok.want []
    have ih := lc_want x0 x1 L (fun y hy => hL y (List.mem_cons_of_mem _ hy)) (acc ++ [rt x]) (by simp; omega)
    have step : wantE ⟨[some x0, some x1, some (.pv x.p)], [some (.l (acc.map .pv))]⟩ = .ok (.pv (rt x)) ⟨[some x0, some x1, some (.pv x.p)], [some (.l (acc.map .pv))]⟩ := by
      simp only [wantE, pvs, Option.map_some, Option.map_none, runB, List.map_cons, List.map_nil, List.length_cons, List.length_nil, List.cons_append, List.nil_append, List.append_nil, List.getElem?_cons_zero, List.getElem?_cons_succ, List.replicate_succ, List.replicate_zero, List.set_cons_zero, List.set_cons_succ, sSeq, sIf, thenS, bindE, tNotD, tB, dCall, callP, callS, callN, dVar, dCons, dNil, retE, badE, pick, List.filterMap_cons, List.filterMap_nil, sNil, tOrD, tAndD, dAndV, dOrV, dNotV, dBin, oEqP, plainEq, dC, rBl, rI, sSet, setSl, sRet, sRetN, sDrop, sFld, o2I, oAddI, oSub, oMulI, oDiv, oMod, oLt, oLe, oGt, oGe, oAddS, oAddL, oOwn, oEqO, oNeO, okEq, okRight, dFlip, dIf, dFld, dProp, dMethG, bad2, mkTup, mkLst, dIsi, ansOf, dFrz, frz, oIx, ixOf, oGcd, oAbs, oInt, oMax2, oMin2, sPar, sPar3, sAsg, gTupD, gsCons, gsNil, gSet, Bool.false_eq_true, ite_false, ite_true, if_true, if_false, reduceIte, Bool.not_true, Bool.not_false, beq_self_eq_true, and_self, and_true, true_and, Nat.reduceAdd, Nat.reduceSub, Nat.reduceEqDiff, Nat.reduceLT, Nat.reduceLeDiff, Nat.sub_self, Nat.zero_add, List.take_zero, decide_true, decide_false, aisi_int, aisi_bool, aisi_Ratio, aisi_list_tuple, Option.some.injEq, bad1, oNegI, oNegO, dJoin, dFmt, oStr, pSome, pNone, slS, oPow, oOwn1, callT, w, Rt, rt]
    rw [List.map_cons]
    unfold lcF
    have g0 : gSet 2 (.pv x.p) ⟨[some x0, some x1, none], [some (.l (acc.map .pv))]⟩ = .ok () ⟨[some x0, some x1, some (.pv x.p)], [some (.l (acc.map .pv))]⟩ := rfl
    rw [g0]
    dsimp only [dYes, retE]
    rw [step]
    have lt : (acc.map SV.pv).length < 16777216 := by rw [List.length_map]; omega
    dsimp only [List.getElem?_cons_zero]
    rw [if_pos lt]
    have e2 : acc.map SV.pv ++ [SV.pv (rt x)] = (acc ++ [rt x]).map SV.pv := by simp
    rw [e2]
    have e3 : acc ++ [rt x] ++ L.map rt = acc ++ (x :: L).map rt := by simp
    rw [e3] at ih
    exact ih
theorem e_total (L : List En) (hL : ∀ x ∈ L, EnOk x) (hl : L.length ≤ 4) : ∃ T Q, (d_Ratio_total [.pv .any, .pv (.lst (L.map (·.p)))] [] = .ok (Rt T Q) ⟨[], [none]⟩ ∧ d_Ratio_total [.pv .any, .pv (.tup (L.map (·.p)))] [] = .ok (Rt T Q) ⟨[], [none]⟩) ∧ 0 < Q ∧ Nat.gcd T.natAbs Q.natAbs = 1 ∧ T * (tb L (0, 1)).2 = (tb L (0, 1)).1 * Q ∧ Bd 1900 T ∧ Bd 1900 Q ∧ Bd 1900 (tb L (0, 1)).1 ∧ Bd 1900 (tb L (0, 1)).2 := by
  obtain ⟨T, Q, h1, h2⟩ := e_total_of L hL hl []
  refine ⟨T, Q, ⟨?_, ?_⟩, h2⟩
  · have w := lc_want (.pv .any) (.pv (.lst (L.map (·.p)))) L hL [] (by simp; omega)
    unfold d_Ratio_total
    change runB 3 (sSeq _ (sRet (dCall [0] [] (callP d_total_of) (bindE (dCons (dFrz (dLc [2] (dItemsA (dVar 1)) (gSet 2) dYes wantE)) dNil) _)))) _ _ = _
    simp only [List.map_nil, List.nil_append] at w
    have is : d_is_list [.pv (.lst (L.map (·.p)))] [] = .ok (.pv (.bl true)) ⟨[], []⟩ := rfl
    simp only [pvs, Option.map_some, Option.map_none, runB, List.map_cons, List.map_nil, List.length_cons, List.length_nil, List.cons_append, List.nil_append, List.append_nil, List.getElem?_cons_zero, List.getElem?_cons_succ, List.replicate_succ, List.replicate_zero, List.set_cons_zero, List.set_cons_succ, sSeq, sIf, thenS, bindE, tNotD, tB, dCall, callP, callS, callN, dVar, dCons, dNil, retE, badE, pick, List.filterMap_cons, List.filterMap_nil, sNil, tOrD, tAndD, dAndV, dOrV, dNotV, dBin, oEqP, plainEq, dC, rBl, rI, sSet, setSl, sRet, sRetN, sDrop, sFld, o2I, oAddI, oSub, oMulI, oDiv, oMod, oLt, oLe, oGt, oGe, oAddS, oAddL, oOwn, oEqO, oNeO, okEq, okRight, dFlip, dIf, dFld, dProp, dMethG, bad2, mkTup, mkLst, dIsi, ansOf, dFrz, frz, oIx, ixOf, oGcd, oAbs, oInt, oMax2, oMin2, sPar, sPar3, sAsg, gTupD, gsCons, gsNil, gSet, Bool.false_eq_true, ite_false, ite_true, if_true, if_false, reduceIte, Bool.not_true, Bool.not_false, beq_self_eq_true, and_self, and_true, true_and, Nat.reduceAdd, Nat.reduceSub, Nat.reduceEqDiff, Nat.reduceLT, Nat.reduceLeDiff, Nat.sub_self, Nat.zero_add, List.take_zero, decide_true, decide_false, aisi_int, aisi_bool, aisi_Ratio, aisi_list_tuple, Option.some.injEq, bad1, oNegI, oNegO, dJoin, dFmt, oStr, pSome, pNone, slS, oPow, oOwn1, callT, is, dLc, dItemsA, wipeL, w, restL, pvs_map, thaw, Option.join, h1]
  · have w := lc_want (.pv .any) (.pv (.tup (L.map (·.p)))) L hL [] (by simp; omega)
    unfold d_Ratio_total
    change runB 3 (sSeq _ (sRet (dCall [0] [] (callP d_total_of) (bindE (dCons (dFrz (dLc [2] (dItemsA (dVar 1)) (gSet 2) dYes wantE)) dNil) _)))) _ _ = _
    simp only [List.map_nil, List.nil_append] at w
    have is : d_is_list [.pv (.tup (L.map (·.p)))] [] = .ok (.pv (.bl true)) ⟨[], []⟩ := rfl
    simp only [pvs, Option.map_some, Option.map_none, runB, List.map_cons, List.map_nil, List.length_cons, List.length_nil, List.cons_append, List.nil_append, List.append_nil, List.getElem?_cons_zero, List.getElem?_cons_succ, List.replicate_succ, List.replicate_zero, List.set_cons_zero, List.set_cons_succ, sSeq, sIf, thenS, bindE, tNotD, tB, dCall, callP, callS, callN, dVar, dCons, dNil, retE, badE, pick, List.filterMap_cons, List.filterMap_nil, sNil, tOrD, tAndD, dAndV, dOrV, dNotV, dBin, oEqP, plainEq, dC, rBl, rI, sSet, setSl, sRet, sRetN, sDrop, sFld, o2I, oAddI, oSub, oMulI, oDiv, oMod, oLt, oLe, oGt, oGe, oAddS, oAddL, oOwn, oEqO, oNeO, okEq, okRight, dFlip, dIf, dFld, dProp, dMethG, bad2, mkTup, mkLst, dIsi, ansOf, dFrz, frz, oIx, ixOf, oGcd, oAbs, oInt, oMax2, oMin2, sPar, sPar3, sAsg, gTupD, gsCons, gsNil, gSet, Bool.false_eq_true, ite_false, ite_true, if_true, if_false, reduceIte, Bool.not_true, Bool.not_false, beq_self_eq_true, and_self, and_true, true_and, Nat.reduceAdd, Nat.reduceSub, Nat.reduceEqDiff, Nat.reduceLT, Nat.reduceLeDiff, Nat.sub_self, Nat.zero_add, List.take_zero, decide_true, decide_false, aisi_int, aisi_bool, aisi_Ratio, aisi_list_tuple, Option.some.injEq, bad1, oNegI, oNegO, dJoin, dFmt, oStr, pSome, pNone, slS, oPow, oOwn1, callT, is, dLc, dItemsA, wipeL, w, restL, pvs_map, thaw, Option.join, h1]
end Sh.Law
namespace Sh.Law
open PySem PySem.Spec Sh L2
/-! # what the script gives -/
structure Pot where
  a : Int
  b : Int
  ha : 0 ≤ a
  hb : 0 ≤ b
  hl : b < 2147483648
def pc (p : Pot) : Option CC := some (.l [.pv (.int p.a), .pv (.int p.b)])
theorem ix20 : ixN 2 0 = some 0 := rfl
theorem ix21 : ixN 2 1 = some 1 := rfl
theorem bd31 {x : Int} (h0 : 0 ≤ x) (h : x < 2147483648) : Bd 31 x := by unfold Bd; omega
theorem bd31' {x : Int} (h0 : -2147483648 < x) (h : x < 2147483648) : Bd 31 x := by unfold Bd; omega
theorem e_draw (p : Pot) (n : Int) (h0 : 0 < n) (h1 : n < 1073741824) : ∃ (v : Int) (p' : Pot), 0 ≤ v ∧ v < n ∧ ∀ rest, d__law_draw [.cell 0, .pv (.int n)] (pc p :: rest) = .ok (.pv (.int v)) ⟨[], pc p' :: rest⟩ := by
  by_cases h : 0 < p.a
  · refine ⟨p.a % n, ⟨p.a / n, p.b, Int.ediv_nonneg p.ha (by omega), p.hb, p.hl⟩, Int.emod_nonneg _ (by omega), Int.emod_lt_of_pos _ h0, fun rest => ?_⟩
    have d0 : decide (0 < p.a) = true := decide_eq_true h
    have c : 0 < n ∧ n < 1073741824 := ⟨h0, h1⟩
    simp only [d__law_draw, pc, at0, at1, oOwn, oEqO, oNeO, pvs, Option.map_some, Option.map_none, runB, List.map_cons, List.map_nil, List.length_cons, List.length_nil, List.cons_append, List.nil_append, List.append_nil, List.getElem?_cons_zero, List.getElem?_cons_succ, List.replicate_succ, List.replicate_zero, List.set_cons_zero, List.set_cons_succ, sSeq, sIf, thenS, bindE, tNotD, tB, dCall, callP, callS, callN, dVar, dCons, dNil, retE, badE, pick, List.filterMap_cons, List.filterMap_nil, sNil, tOrD, tAndD, dAndV, dOrV, dNotV, dBin, oEqP, plainEq, dC, rBl, rI, sSet, setSl, sRet, sRetN, sDrop, sFld, o2I, oAddI, oSub, oMulI, oDiv, oMod, oLt, oLe, oGt, oGe, oAddS, oAddL, oOwn, oEqO, oNeO, okEq, okRight, dFlip, dIf, dFld, dProp, dMethG, bad2, mkTup, mkLst, dIsi, ansOf, dFrz, frz, oIx, ixOf, oGcd, oAbs, oInt, oMax2, oMin2, sPar, sPar3, sAsg, gTupD, gsCons, gsNil, gSet, Bool.false_eq_true, ite_false, ite_true, if_true, if_false, reduceIte, Bool.not_true, Bool.not_false, beq_self_eq_true, and_self, and_true, true_and, Nat.reduceAdd, Nat.reduceSub, Nat.reduceEqDiff, Nat.reduceLT, Nat.reduceLeDiff, Nat.sub_self, Nat.zero_add, List.take_zero, decide_true, decide_false, aisi_int, aisi_bool, aisi_Ratio, aisi_list_tuple, Option.some.injEq, bad1, oNegI, oNegO, dJoin, dFmt, oStr, pSome, pNone, slS, oPow, callT, gSubD, setIt, oDivmod, oLen, lenOf, newCell, dBM, isLc, oApp, sFor, dItemsA, dRng1, d0, if_pos c, ix20, ix21]
  · have d0 : decide (0 < p.a) = false := decide_eq_false h
    generalize hb2 : (p.b * 48271 + 18617).fmod 2147483587 = b2
    have n1 : 0 ≤ b2 := by rw [← hb2]; exact Int.fmod_nonneg_of_pos _ (by decide)
    have n2 : b2 < 2147483587 := by rw [← hb2]; exact Int.fmod_lt_of_pos _ (by decide)
    refine ⟨(((b2 * b2).fmod 2147483549).fdiv 13).fmod n, ⟨p.a, b2, p.ha, n1, by omega⟩, Int.fmod_nonneg_of_pos _ h0, Int.fmod_lt_of_pos _ h0, fun rest => ?_⟩
    have g1 := lg (bd31 p.hb p.hl) (show Bd 31 (48271 : Int) by unfold Bd; decide +kernel)
    have g2 := lg (bd31 n1 (by omega)) (bd31 n1 (by omega))
    have c1 : ((2147483587 : Int) = 0) = False := by simp
    have c2 : ((2147483549 : Int) = 0) = False := by simp
    have c3 : ((13 : Int) = 0) = False := by simp
    have c4 : ((13 : Int).natAbs.log2 < 9000) = True := by simp; decide +kernel
    have c5 : (n = 0) = False := by simp; omega
    simp only [d__law_draw, pc, at0, at1, oOwn, oEqO, oNeO, pvs, Option.map_some, Option.map_none, runB, List.map_cons, List.map_nil, List.length_cons, List.length_nil, List.cons_append, List.nil_append, List.append_nil, List.getElem?_cons_zero, List.getElem?_cons_succ, List.replicate_succ, List.replicate_zero, List.set_cons_zero, List.set_cons_succ, sSeq, sIf, thenS, bindE, tNotD, tB, dCall, callP, callS, callN, dVar, dCons, dNil, retE, badE, pick, List.filterMap_cons, List.filterMap_nil, sNil, tOrD, tAndD, dAndV, dOrV, dNotV, dBin, oEqP, plainEq, dC, rBl, rI, sSet, setSl, sRet, sRetN, sDrop, sFld, o2I, oAddI, oSub, oMulI, oDiv, oMod, oLt, oLe, oGt, oGe, oAddS, oAddL, oOwn, oEqO, oNeO, okEq, okRight, dFlip, dIf, dFld, dProp, dMethG, bad2, mkTup, mkLst, dIsi, ansOf, dFrz, frz, oIx, ixOf, oGcd, oAbs, oInt, oMax2, oMin2, sPar, sPar3, sAsg, gTupD, gsCons, gsNil, gSet, Bool.false_eq_true, ite_false, ite_true, if_true, if_false, reduceIte, Bool.not_true, Bool.not_false, beq_self_eq_true, and_self, and_true, true_and, Nat.reduceAdd, Nat.reduceSub, Nat.reduceEqDiff, Nat.reduceLT, Nat.reduceLeDiff, Nat.sub_self, Nat.zero_add, List.take_zero, decide_true, decide_false, aisi_int, aisi_bool, aisi_Ratio, aisi_list_tuple, Option.some.injEq, bad1, oNegI, oNegO, dJoin, dFmt, oStr, pSome, pNone, slS, oPow, callT, gSubD, setIt, oDivmod, oLen, lenOf, newCell, dBM, isLc, oApp, sFor, dItemsA, dRng1, d0, ix20, ix21, g1, g2, hb2, c1, c2, c3, c4, c5, ne_eq, not_false_eq_true]
theorem e_whole_n (p : Pot) : ∃ (v : Int) (p' : Pot), Bd 390 v ∧ ∀ rest, d__law_whole [.cell 0] (pc p :: rest) = .ok (.pv (.int v)) ⟨[], pc p' :: rest⟩ := by
  obtain ⟨v, p1, h1, h2, h3⟩ := e_draw p 2 (by decide) (by decide)
  by_cases h : v = 0
  · obtain ⟨w, p2, k1, k2, k3⟩ := e_draw p1 25 (by decide) (by decide)
    have d0 : decide (v = 0) = true := decide_eq_true h
    refine ⟨w - 12, p2, (bd31' (by omega) (by omega)).mono (by decide), fun rest => ?_⟩
    simp only [d__law_whole, oOwn, oEqO, oNeO, pvs, Option.map_some, Option.map_none, runB, List.map_cons, List.map_nil, List.length_cons, List.length_nil, List.cons_append, List.nil_append, List.append_nil, List.getElem?_cons_zero, List.getElem?_cons_succ, List.replicate_succ, List.replicate_zero, List.set_cons_zero, List.set_cons_succ, sSeq, sIf, thenS, bindE, tNotD, tB, dCall, callP, callS, callN, dVar, dCons, dNil, retE, badE, pick, List.filterMap_cons, List.filterMap_nil, sNil, tOrD, tAndD, dAndV, dOrV, dNotV, dBin, oEqP, plainEq, dC, rBl, rI, sSet, setSl, sRet, sRetN, sDrop, sFld, o2I, oAddI, oSub, oMulI, oDiv, oMod, oLt, oLe, oGt, oGe, oAddS, oAddL, oOwn, oEqO, oNeO, okEq, okRight, dFlip, dIf, dFld, dProp, dMethG, bad2, mkTup, mkLst, dIsi, ansOf, dFrz, frz, oIx, ixOf, oGcd, oAbs, oInt, oMax2, oMin2, sPar, sPar3, sAsg, gTupD, gsCons, gsNil, gSet, Bool.false_eq_true, ite_false, ite_true, if_true, if_false, reduceIte, Bool.not_true, Bool.not_false, beq_self_eq_true, and_self, and_true, true_and, Nat.reduceAdd, Nat.reduceSub, Nat.reduceEqDiff, Nat.reduceLT, Nat.reduceLeDiff, Nat.sub_self, Nat.zero_add, List.take_zero, decide_true, decide_false, aisi_int, aisi_bool, aisi_Ratio, aisi_list_tuple, Option.some.injEq, bad1, oNegI, oNegO, dJoin, dFmt, oStr, pSome, pNone, slS, oPow, callT, gSubD, setIt, oDivmod, oLen, lenOf, newCell, dBM, isLc, oApp, sFor, dItemsA, dRng1, h3, k3, d0]
  · obtain ⟨w, p2, k1, k2, k3⟩ := e_draw p1 1999999 (by decide) (by decide)
    have d0 : decide (v = 0) = false := decide_eq_false h
    refine ⟨w - 999999, p2, (bd31' (by omega) (by omega)).mono (by decide), fun rest => ?_⟩
    simp only [d__law_whole, oOwn, oEqO, oNeO, pvs, Option.map_some, Option.map_none, runB, List.map_cons, List.map_nil, List.length_cons, List.length_nil, List.cons_append, List.nil_append, List.append_nil, List.getElem?_cons_zero, List.getElem?_cons_succ, List.replicate_succ, List.replicate_zero, List.set_cons_zero, List.set_cons_succ, sSeq, sIf, thenS, bindE, tNotD, tB, dCall, callP, callS, callN, dVar, dCons, dNil, retE, badE, pick, List.filterMap_cons, List.filterMap_nil, sNil, tOrD, tAndD, dAndV, dOrV, dNotV, dBin, oEqP, plainEq, dC, rBl, rI, sSet, setSl, sRet, sRetN, sDrop, sFld, o2I, oAddI, oSub, oMulI, oDiv, oMod, oLt, oLe, oGt, oGe, oAddS, oAddL, oOwn, oEqO, oNeO, okEq, okRight, dFlip, dIf, dFld, dProp, dMethG, bad2, mkTup, mkLst, dIsi, ansOf, dFrz, frz, oIx, ixOf, oGcd, oAbs, oInt, oMax2, oMin2, sPar, sPar3, sAsg, gTupD, gsCons, gsNil, gSet, Bool.false_eq_true, ite_false, ite_true, if_true, if_false, reduceIte, Bool.not_true, Bool.not_false, beq_self_eq_true, and_self, and_true, true_and, Nat.reduceAdd, Nat.reduceSub, Nat.reduceEqDiff, Nat.reduceLT, Nat.reduceLeDiff, Nat.sub_self, Nat.zero_add, List.take_zero, decide_true, decide_false, aisi_int, aisi_bool, aisi_Ratio, aisi_list_tuple, Option.some.injEq, bad1, oNegI, oNegO, dJoin, dFmt, oStr, pSome, pNone, slS, oPow, callT, gSubD, setIt, oDivmod, oLen, lenOf, newCell, dBM, isLc, oApp, sFor, dItemsA, dRng1, h3, k3, d0]
def topB : DS := (sSet 2 (dBin (oAddI (oAddS (oAddL (oOwn 0 d_Ratio___add__ d_Ratio___radd__ bad2)))) (dBin (oMulI (oOwn 0 d_Ratio___mul__ d_Ratio___rmul__ bad2)) (dVar 2) (dBin (oPow bad2) (dC (.int 10)) (dC (.int 9)))) (dCall [0, 1] [] (callS d__law_draw) (bindE (dCons (dVar 0) (dCons (dBin (oPow bad2) (dC (.int 10)) (dC (.int 9))) dNil)) fun xs => if xs.length = 2 then retE xs else badE))))
theorem top_loop (v0 : SV) : ∀ (L : List PV) (f : Nat) (j : Nat) (p : Pot) (o : Option SV), f < 2 ^ (30 * j) → j + L.length ≤ 5 →
    ∃ (f' : Nat) (p' : Pot), f' < 2 ^ 150 ∧ ∀ rest, ∃ o', loopF (gSet 3) topB L ⟨[some (.cell 0), some v0, some (.pv (.int f)), o], pc p :: rest⟩ = .ok .nx ⟨[some (.cell 0), some v0, some (.pv (.int f')), o'], pc p' :: rest⟩
  | [], f, j, p, o, h1, hj => by
    refine ⟨f, p, Nat.lt_of_lt_of_le h1 (Nat.pow_le_pow_right (by decide) (by simp at hj; omega)), fun rest => ⟨o, rfl⟩⟩
  | x :: L, f, j, p, o, h1, hj => by
    rw [List.length_cons] at hj
    obtain ⟨w, p1, k1, k2, k3⟩ := e_draw p 1000000000 (by decide) (by decide)
    have nb : f * 1000000000 + w.toNat < 2 ^ (30 * (j + 1)) := by
      have e : 2 ^ (30 * (j + 1)) = 2 ^ (30 * j) * 1073741824 := by rw [Nat.mul_add, Nat.pow_add]
      rw [e]
      omega
    have ec : ((f : Nat) : Int) * 1000000000 + w = ((f * 1000000000 + w.toNat : Nat) : Int) := by omega
    obtain ⟨f', p', n2, n3⟩ := top_loop v0 L (f * 1000000000 + w.toNat) (j + 1) p1 (some (.pv x)) nb (by omega)
    refine ⟨f', p', n2, fun rest => ?_⟩
    obtain ⟨o', n4⟩ := n3 rest
    have hf : Bd 150 ((f : Nat) : Int) := by
      unfold Bd
      rw [Int.natAbs_natCast]
      exact Nat.lt_of_lt_of_le h1 (Nat.pow_le_pow_right (by decide) (by omega))
    have g1 := lg hf (show Bd 31 (1000000000 : Int) by unfold Bd; decide +kernel)
    have step : topB ⟨[some (.cell 0), some v0, some (.pv (.int f)), some (.pv x)], pc p :: rest⟩ = .ok .nx ⟨[some (.cell 0), some v0, some (.pv (.int ((f * 1000000000 + w.toNat : Nat) : Int))), some (.pv x)], pc p1 :: rest⟩ := by
      have pw : oPow bad2 (.pv (.int 10)) (.pv (.int 9)) = retE (.pv (.int 1000000000)) := rfl
      simp only [topB, oOwn, pvs, Option.map_some, Option.map_none, runB, List.map_cons, List.map_nil, List.length_cons, List.length_nil, List.cons_append, List.nil_append, List.append_nil, List.getElem?_cons_zero, List.getElem?_cons_succ, List.replicate_succ, List.replicate_zero, List.set_cons_zero, List.set_cons_succ, sSeq, sIf, thenS, bindE, tNotD, tB, dCall, callP, callS, callN, dVar, dCons, dNil, retE, badE, pick, List.filterMap_cons, List.filterMap_nil, sNil, tOrD, tAndD, dAndV, dOrV, dNotV, dBin, oEqP, plainEq, dC, rBl, rI, sSet, setSl, sRet, sRetN, sDrop, sFld, o2I, oAddI, oSub, oMulI, oDiv, oMod, oLt, oLe, oGt, oGe, oAddS, oAddL, oOwn, oEqO, oNeO, okEq, okRight, dFlip, dIf, dFld, dProp, dMethG, bad2, mkTup, mkLst, dIsi, ansOf, dFrz, frz, oIx, ixOf, oGcd, oAbs, oInt, oMax2, oMin2, sPar, sPar3, sAsg, gTupD, gsCons, gsNil, gSet, Bool.false_eq_true, ite_false, ite_true, if_true, if_false, reduceIte, Bool.not_true, Bool.not_false, beq_self_eq_true, and_self, and_true, true_and, Nat.reduceAdd, Nat.reduceSub, Nat.reduceEqDiff, Nat.reduceLT, Nat.reduceLeDiff, Nat.sub_self, Nat.zero_add, List.take_zero, decide_true, decide_false, aisi_int, aisi_bool, aisi_Ratio, aisi_list_tuple, Option.some.injEq, bad1, oNegI, oNegO, dJoin, dFmt, oStr, pSome, pNone, slS, callT, gSubD, setIt, oDivmod, oLen, lenOf, newCell, dBM, isLc, oApp, sFor, dItemsA, dRng1, pw, k3, g1, ec]
    refine ⟨o', ?_⟩
    show (match gSet 3 (.pv x) ⟨[some (.cell 0), some v0, some (.pv (.int f)), o], pc p :: rest⟩ with
      | .ok _ e1 => loopK (loopF (gSet 3) topB L) (topB e1)
      | .exc c fs e1 => .exc c fs e1
      | .bad => .bad) = _
    have g0 : gSet 3 (.pv x) ⟨[some (.cell 0), some v0, some (.pv (.int f)), o], pc p :: rest⟩ = .ok () ⟨[some (.cell 0), some v0, some (.pv (.int f)), some (.pv x)], pc p :: rest⟩ := rfl
    rw [g0]
    dsimp only
    rw [step]
    exact n4
theorem bd150 {f : Nat} (h : f < 2 ^ 150) : Bd 390 ((f : Nat) : Int) := by
  have : Bd 150 ((f : Nat) : Int) := by
    unfold Bd
    rw [Int.natAbs_natCast]
    exact h
  exact this.mono (by decide)
def topR : StE → Out (List PV) := dRng1 (dCons (dIf (tB (dBin (oEqP false (oEqO 0 d_Ratio___eq__ bad2)) (dVar 1) (dC (.int 3)))) (dC (.int 3)) (dC (.int 5))) dNil)
theorem topR_ok (v : Int) (cs : Cs) : ∃ L : List PV, L.length ≤ 5 ∧ ∀ cs, topR ⟨[some (.cell 0), some (.pv (.int v)), some (.pv (.int 0)), none], cs⟩ = .ok L ⟨[some (.cell 0), some (.pv (.int v)), some (.pv (.int 0)), none], cs⟩ := by
  by_cases h5 : v = 3
  · subst h5
    exact ⟨rngP 0 3, by decide, fun cs => rfl⟩
  · have e5 : decide (v = 3) = false := decide_eq_false h5
    refine ⟨rngP 0 5, by decide, fun cs => ?_⟩
    have rw5 : (-4611686018427387904 ≤ (5 : Int) ∧ (5 : Int) < 4611686018427387904) := by decide
    simp only [topR, oEqO, pvs, Option.map_some, Option.map_none, runB, List.map_cons, List.map_nil, List.length_cons, List.length_nil, List.cons_append, List.nil_append, List.append_nil, List.getElem?_cons_zero, List.getElem?_cons_succ, List.replicate_succ, List.replicate_zero, List.set_cons_zero, List.set_cons_succ, sSeq, sIf, thenS, bindE, tNotD, tB, dCall, callP, callS, callN, dVar, dCons, dNil, retE, badE, pick, List.filterMap_cons, List.filterMap_nil, sNil, tOrD, tAndD, dAndV, dOrV, dNotV, dBin, oEqP, plainEq, dC, rBl, rI, sSet, setSl, sRet, sRetN, sDrop, sFld, o2I, oAddI, oSub, oMulI, oDiv, oMod, oLt, oLe, oGt, oGe, oAddS, oAddL, oOwn, oEqO, oNeO, okEq, okRight, dFlip, dIf, dFld, dProp, dMethG, bad2, mkTup, mkLst, dIsi, ansOf, dFrz, frz, oIx, ixOf, oGcd, oAbs, oInt, oMax2, oMin2, sPar, sPar3, sAsg, gTupD, gsCons, gsNil, gSet, Bool.false_eq_true, ite_false, ite_true, if_true, if_false, reduceIte, Bool.not_true, Bool.not_false, beq_self_eq_true, and_self, and_true, true_and, Nat.reduceAdd, Nat.reduceSub, Nat.reduceEqDiff, Nat.reduceLT, Nat.reduceLeDiff, Nat.sub_self, Nat.zero_add, List.take_zero, decide_true, decide_false, aisi_int, aisi_bool, aisi_Ratio, aisi_list_tuple, Option.some.injEq, bad1, oNegI, oNegO, dJoin, dFmt, oStr, pSome, pNone, slS, oPow, callT, gSubD, setIt, oDivmod, oLen, lenOf, newCell, dBM, isLc, oApp, sFor, dItemsA, dRng1, e5, if_pos rw5]
    rfl
theorem e_top_n (p : Pot) : ∃ (v : Int) (p' : Pot), Bd 390 v ∧ ∀ rest, d__law_top [.cell 0] (pc p :: rest) = .ok (.pv (.int v)) ⟨[], pc p' :: rest⟩ := by
  obtain ⟨v, p1, h1, h2, h3⟩ := e_draw p 5 (by decide) (by decide)
  by_cases h : v < 3
  · obtain ⟨w, p2, k1, k2, k3⟩ := e_draw p1 25 (by decide) (by decide)
    have d0 : decide (v < 3) = true := decide_eq_true h
    refine ⟨w - 12, p2, (bd31' (by omega) (by omega)).mono (by decide), fun rest => ?_⟩
    simp only [d__law_top, oOwn, oEqO, oNeO, pvs, Option.map_some, Option.map_none, runB, List.map_cons, List.map_nil, List.length_cons, List.length_nil, List.cons_append, List.nil_append, List.append_nil, List.getElem?_cons_zero, List.getElem?_cons_succ, List.replicate_succ, List.replicate_zero, List.set_cons_zero, List.set_cons_succ, sSeq, sIf, thenS, bindE, tNotD, tB, dCall, callP, callS, callN, dVar, dCons, dNil, retE, badE, pick, List.filterMap_cons, List.filterMap_nil, sNil, tOrD, tAndD, dAndV, dOrV, dNotV, dBin, oEqP, plainEq, dC, rBl, rI, sSet, setSl, sRet, sRetN, sDrop, sFld, o2I, oAddI, oSub, oMulI, oDiv, oMod, oLt, oLe, oGt, oGe, oAddS, oAddL, oOwn, oEqO, oNeO, okEq, okRight, dFlip, dIf, dFld, dProp, dMethG, bad2, mkTup, mkLst, dIsi, ansOf, dFrz, frz, oIx, ixOf, oGcd, oAbs, oInt, oMax2, oMin2, sPar, sPar3, sAsg, gTupD, gsCons, gsNil, gSet, Bool.false_eq_true, ite_false, ite_true, if_true, if_false, reduceIte, Bool.not_true, Bool.not_false, beq_self_eq_true, and_self, and_true, true_and, Nat.reduceAdd, Nat.reduceSub, Nat.reduceEqDiff, Nat.reduceLT, Nat.reduceLeDiff, Nat.sub_self, Nat.zero_add, List.take_zero, decide_true, decide_false, aisi_int, aisi_bool, aisi_Ratio, aisi_list_tuple, Option.some.injEq, bad1, oNegI, oNegO, dJoin, dFmt, oStr, pSome, pNone, slS, oPow, callT, gSubD, setIt, oDivmod, oLen, lenOf, newCell, dBM, isLc, oApp, sFor, dItemsA, dRng1, h3, k3, d0]
  · have d0 : decide (v < 3) = false := decide_eq_false h
    obtain ⟨L, hL, hL2⟩ := topR_ok v []
    obtain ⟨f, p2, n2, n3⟩ := top_loop (.pv (.int v)) L 0 0 p1 none (by decide) (by omega)
    obtain ⟨w, p3, k1, k2, k3⟩ := e_draw p2 2 (by decide) (by decide)
    by_cases hw : w = 0
    · have d1 : decide (w = 0) = true := decide_eq_true hw
      refine ⟨f, p3, bd150 n2, fun rest => ?_⟩
      obtain ⟨o', n4⟩ := n3 rest
      unfold d__law_top
      change runB 4 (sSeq _ (sSeq _ (sSeq _ (sSeq (sFor topR (gSet 3) topB) _)))) _ _ = _
      simp only [Int.ofNat_zero, Int.natCast_zero] at n4
      simp only [oOwn, oEqO, oNeO, pvs, Option.map_some, Option.map_none, runB, List.map_cons, List.map_nil, List.length_cons, List.length_nil, List.cons_append, List.nil_append, List.append_nil, List.getElem?_cons_zero, List.getElem?_cons_succ, List.replicate_succ, List.replicate_zero, List.set_cons_zero, List.set_cons_succ, sSeq, sIf, thenS, bindE, tNotD, tB, dCall, callP, callS, callN, dVar, dCons, dNil, retE, badE, pick, List.filterMap_cons, List.filterMap_nil, sNil, tOrD, tAndD, dAndV, dOrV, dNotV, dBin, oEqP, plainEq, dC, rBl, rI, sSet, setSl, sRet, sRetN, sDrop, sFld, o2I, oAddI, oSub, oMulI, oDiv, oMod, oLt, oLe, oGt, oGe, oAddS, oAddL, oOwn, oEqO, oNeO, okEq, okRight, dFlip, dIf, dFld, dProp, dMethG, bad2, mkTup, mkLst, dIsi, ansOf, dFrz, frz, oIx, ixOf, oGcd, oAbs, oInt, oMax2, oMin2, sPar, sPar3, sAsg, gTupD, gsCons, gsNil, gSet, Bool.false_eq_true, ite_false, ite_true, if_true, if_false, reduceIte, Bool.not_true, Bool.not_false, beq_self_eq_true, and_self, and_true, true_and, Nat.reduceAdd, Nat.reduceSub, Nat.reduceEqDiff, Nat.reduceLT, Nat.reduceLeDiff, Nat.sub_self, Nat.zero_add, List.take_zero, decide_true, decide_false, aisi_int, aisi_bool, aisi_Ratio, aisi_list_tuple, Option.some.injEq, bad1, oNegI, oNegO, dJoin, dFmt, oStr, pSome, pNone, slS, oPow, callT, gSubD, setIt, oDivmod, oLen, lenOf, newCell, dBM, isLc, oApp, sFor, dItemsA, dRng1, h3, d0, hL2, n4, k3, d1]
    · have d1 : decide (w = 0) = false := decide_eq_false hw
      refine ⟨0 - f, p3, (bd150 n2).neg, fun rest => ?_⟩
      obtain ⟨o', n4⟩ := n3 rest
      unfold d__law_top
      change runB 4 (sSeq _ (sSeq _ (sSeq _ (sSeq (sFor topR (gSet 3) topB) _)))) _ _ = _
      simp only [Int.ofNat_zero, Int.natCast_zero] at n4
      simp only [oOwn, oEqO, oNeO, pvs, Option.map_some, Option.map_none, runB, List.map_cons, List.map_nil, List.length_cons, List.length_nil, List.cons_append, List.nil_append, List.append_nil, List.getElem?_cons_zero, List.getElem?_cons_succ, List.replicate_succ, List.replicate_zero, List.set_cons_zero, List.set_cons_succ, sSeq, sIf, thenS, bindE, tNotD, tB, dCall, callP, callS, callN, dVar, dCons, dNil, retE, badE, pick, List.filterMap_cons, List.filterMap_nil, sNil, tOrD, tAndD, dAndV, dOrV, dNotV, dBin, oEqP, plainEq, dC, rBl, rI, sSet, setSl, sRet, sRetN, sDrop, sFld, o2I, oAddI, oSub, oMulI, oDiv, oMod, oLt, oLe, oGt, oGe, oAddS, oAddL, oOwn, oEqO, oNeO, okEq, okRight, dFlip, dIf, dFld, dProp, dMethG, bad2, mkTup, mkLst, dIsi, ansOf, dFrz, frz, oIx, ixOf, oGcd, oAbs, oInt, oMax2, oMin2, sPar, sPar3, sAsg, gTupD, gsCons, gsNil, gSet, Bool.false_eq_true, ite_false, ite_true, if_true, if_false, reduceIte, Bool.not_true, Bool.not_false, beq_self_eq_true, and_self, and_true, true_and, Nat.reduceAdd, Nat.reduceSub, Nat.reduceEqDiff, Nat.reduceLT, Nat.reduceLeDiff, Nat.sub_self, Nat.zero_add, List.take_zero, decide_true, decide_false, aisi_int, aisi_bool, aisi_Ratio, aisi_list_tuple, Option.some.injEq, bad1, oNegI, oNegO, dJoin, dFmt, oStr, pSome, pNone, slS, oPow, callT, gSubD, setIt, oDivmod, oLen, lenOf, newCell, dBM, isLc, oApp, sFor, dItemsA, dRng1, h3, d0, hL2, n4, k3, d1]
theorem e_pair_n (p : Pot) : ∃ (x y : Int) (p' : Pot), Bd 390 x ∧ Bd 390 y ∧ y ≠ 0 ∧ ∀ rest, d__law_pair [.cell 0] (pc p :: rest) = .ok (tp x y) ⟨[], pc p' :: rest⟩ := by
  obtain ⟨v, p1, h1, h2, h3⟩ := e_draw p 3 (by decide) (by decide)
  have two : (2 : Nat) ≤ 16777216 := by decide
  by_cases h : v = 0
  · have d0 : decide (v = 0) = true := decide_eq_true h
    obtain ⟨y, p2, k1, k2⟩ := e_top_n p1
    obtain ⟨x, p3, m1, m2⟩ := e_top_n p2
    by_cases hy : y = 0
    · have d1 : decide (y = 0) = true := decide_eq_true hy
      refine ⟨x, 5, p3, m1, by unfold Bd; decide +kernel, by decide, fun rest => ?_⟩
      simp only [d__law_pair, oOwn, oEqO, oNeO, tp, pvs, Option.map_some, Option.map_none, runB, List.map_cons, List.map_nil, List.length_cons, List.length_nil, List.cons_append, List.nil_append, List.append_nil, List.getElem?_cons_zero, List.getElem?_cons_succ, List.replicate_succ, List.replicate_zero, List.set_cons_zero, List.set_cons_succ, sSeq, sIf, thenS, bindE, tNotD, tB, dCall, callP, callS, callN, dVar, dCons, dNil, retE, badE, pick, List.filterMap_cons, List.filterMap_nil, sNil, tOrD, tAndD, dAndV, dOrV, dNotV, dBin, oEqP, plainEq, dC, rBl, rI, sSet, setSl, sRet, sRetN, sDrop, sFld, o2I, oAddI, oSub, oMulI, oDiv, oMod, oLt, oLe, oGt, oGe, oAddS, oAddL, oOwn, oEqO, oNeO, okEq, okRight, dFlip, dIf, dFld, dProp, dMethG, bad2, mkTup, mkLst, dIsi, ansOf, dFrz, frz, oIx, ixOf, oGcd, oAbs, oInt, oMax2, oMin2, sPar, sPar3, sAsg, gTupD, gsCons, gsNil, gSet, Bool.false_eq_true, ite_false, ite_true, if_true, if_false, reduceIte, Bool.not_true, Bool.not_false, beq_self_eq_true, and_self, and_true, true_and, Nat.reduceAdd, Nat.reduceSub, Nat.reduceEqDiff, Nat.reduceLT, Nat.reduceLeDiff, Nat.sub_self, Nat.zero_add, List.take_zero, decide_true, decide_false, aisi_int, aisi_bool, aisi_Ratio, aisi_list_tuple, Option.some.injEq, bad1, oNegI, oNegO, dJoin, dFmt, oStr, pSome, pNone, slS, oPow, callT, gSubD, setIt, oDivmod, oLen, lenOf, newCell, dBM, isLc, oApp, sFor, dItemsA, dRng1, h3, d0, k2, m2, d1]
    · have d1 : decide (y = 0) = false := decide_eq_false hy
      refine ⟨x, y, p3, m1, k1, hy, fun rest => ?_⟩
      simp only [d__law_pair, oOwn, oEqO, oNeO, tp, pvs, Option.map_some, Option.map_none, runB, List.map_cons, List.map_nil, List.length_cons, List.length_nil, List.cons_append, List.nil_append, List.append_nil, List.getElem?_cons_zero, List.getElem?_cons_succ, List.replicate_succ, List.replicate_zero, List.set_cons_zero, List.set_cons_succ, sSeq, sIf, thenS, bindE, tNotD, tB, dCall, callP, callS, callN, dVar, dCons, dNil, retE, badE, pick, List.filterMap_cons, List.filterMap_nil, sNil, tOrD, tAndD, dAndV, dOrV, dNotV, dBin, oEqP, plainEq, dC, rBl, rI, sSet, setSl, sRet, sRetN, sDrop, sFld, o2I, oAddI, oSub, oMulI, oDiv, oMod, oLt, oLe, oGt, oGe, oAddS, oAddL, oOwn, oEqO, oNeO, okEq, okRight, dFlip, dIf, dFld, dProp, dMethG, bad2, mkTup, mkLst, dIsi, ansOf, dFrz, frz, oIx, ixOf, oGcd, oAbs, oInt, oMax2, oMin2, sPar, sPar3, sAsg, gTupD, gsCons, gsNil, gSet, Bool.false_eq_true, ite_false, ite_true, if_true, if_false, reduceIte, Bool.not_true, Bool.not_false, beq_self_eq_true, and_self, and_true, true_and, Nat.reduceAdd, Nat.reduceSub, Nat.reduceEqDiff, Nat.reduceLT, Nat.reduceLeDiff, Nat.sub_self, Nat.zero_add, List.take_zero, decide_true, decide_false, aisi_int, aisi_bool, aisi_Ratio, aisi_list_tuple, Option.some.injEq, bad1, oNegI, oNegO, dJoin, dFmt, oStr, pSome, pNone, slS, oPow, callT, gSubD, setIt, oDivmod, oLen, lenOf, newCell, dBM, isLc, oApp, sFor, dItemsA, dRng1, h3, d0, k2, m2, d1]
  · have d0 : decide (v = 0) = false := decide_eq_false h
    obtain ⟨y, p2, k0, k1, k2⟩ := e_draw p1 12 (by decide) (by decide)
    obtain ⟨x, p3, m1, m2⟩ := e_top_n p2
    have d1 : decide (1 + y = 0) = false := decide_eq_false (by omega)
    refine ⟨x, 1 + y, p3, m1, (bd31' (by omega) (by omega)).mono (by decide), by omega, fun rest => ?_⟩
    simp only [d__law_pair, oOwn, oEqO, oNeO, tp, pvs, Option.map_some, Option.map_none, runB, List.map_cons, List.map_nil, List.length_cons, List.length_nil, List.cons_append, List.nil_append, List.append_nil, List.getElem?_cons_zero, List.getElem?_cons_succ, List.replicate_succ, List.replicate_zero, List.set_cons_zero, List.set_cons_succ, sSeq, sIf, thenS, bindE, tNotD, tB, dCall, callP, callS, callN, dVar, dCons, dNil, retE, badE, pick, List.filterMap_cons, List.filterMap_nil, sNil, tOrD, tAndD, dAndV, dOrV, dNotV, dBin, oEqP, plainEq, dC, rBl, rI, sSet, setSl, sRet, sRetN, sDrop, sFld, o2I, oAddI, oSub, oMulI, oDiv, oMod, oLt, oLe, oGt, oGe, oAddS, oAddL, oOwn, oEqO, oNeO, okEq, okRight, dFlip, dIf, dFld, dProp, dMethG, bad2, mkTup, mkLst, dIsi, ansOf, dFrz, frz, oIx, ixOf, oGcd, oAbs, oInt, oMax2, oMin2, sPar, sPar3, sAsg, gTupD, gsCons, gsNil, gSet, Bool.false_eq_true, ite_false, ite_true, if_true, if_false, reduceIte, Bool.not_true, Bool.not_false, beq_self_eq_true, and_self, and_true, true_and, Nat.reduceAdd, Nat.reduceSub, Nat.reduceEqDiff, Nat.reduceLT, Nat.reduceLeDiff, Nat.sub_self, Nat.zero_add, List.take_zero, decide_true, decide_false, aisi_int, aisi_bool, aisi_Ratio, aisi_list_tuple, Option.some.injEq, bad1, oNegI, oNegO, dJoin, dFmt, oStr, pSome, pNone, slS, oPow, callT, gSubD, setIt, oDivmod, oLen, lenOf, newCell, dBM, isLc, oApp, sFor, dItemsA, dRng1, h3, d0, k2, m2, d1]
theorem e_pick5 (p : Pot) (x0 x1 x2 x3 x4 : PV) : ∃ (z : PV) (p' : Pot), z ∈ [x0, x1, x2, x3, x4] ∧ ∀ rest, d__law_pick [.cell 0, .pv (.lst [x0, x1, x2, x3, x4])] (pc p :: rest) = .ok (.pv z) ⟨[], pc p' :: rest⟩ := by
  obtain ⟨v, p1, h1, h2, h3⟩ := e_draw p 5 (by decide) (by decide)
  have main : ∀ z, (atI [x0, x1, x2, x3, x4] v).map SV.pv = some (.pv z) → ∀ rest, d__law_pick [.cell 0, .pv (.lst [x0, x1, x2, x3, x4])] (pc p :: rest) = .ok (.pv z) ⟨[], pc p1 :: rest⟩ := fun z hz rest => by
    have c5 : (((0 + 1 + 1 + 1 + 1 + 1 : Nat) : Nat) : Int) = 5 := rfl
    simp only [d__law_pick, pvs, Option.map_some, Option.map_none, runB, List.map_cons, List.map_nil, List.length_cons, List.length_nil, List.cons_append, List.nil_append, List.append_nil, List.getElem?_cons_zero, List.getElem?_cons_succ, List.replicate_succ, List.replicate_zero, List.set_cons_zero, List.set_cons_succ, sSeq, sIf, thenS, bindE, tNotD, tB, dCall, callP, callS, callN, dVar, dCons, dNil, retE, badE, pick, List.filterMap_cons, List.filterMap_nil, sNil, tOrD, tAndD, dAndV, dOrV, dNotV, dBin, oEqP, plainEq, dC, rBl, rI, sSet, setSl, sRet, sRetN, sDrop, sFld, o2I, oAddI, oSub, oMulI, oDiv, oMod, oLt, oLe, oGt, oGe, oAddS, oAddL, oOwn, oEqO, oNeO, okEq, okRight, dFlip, dIf, dFld, dProp, dMethG, bad2, mkTup, mkLst, dIsi, ansOf, dFrz, frz, oIx, ixOf, oGcd, oAbs, oInt, oMax2, oMin2, sPar, sPar3, sAsg, gTupD, gsCons, gsNil, gSet, Bool.false_eq_true, ite_false, ite_true, if_true, if_false, reduceIte, Bool.not_true, Bool.not_false, beq_self_eq_true, and_self, and_true, true_and, Nat.reduceAdd, Nat.reduceSub, Nat.reduceEqDiff, Nat.reduceLT, Nat.reduceLeDiff, Nat.sub_self, Nat.zero_add, List.take_zero, decide_true, decide_false, aisi_int, aisi_bool, aisi_Ratio, aisi_list_tuple, Option.some.injEq, bad1, oNegI, oNegO, dJoin, dFmt, oStr, pSome, pNone, slS, oPow, callT, gSubD, setIt, oDivmod, oLen, lenOf, newCell, dBM, isLc, oApp, sFor, dItemsA, dRng1, h3, hz, c5]
  have : v = 0 ∨ v = 1 ∨ v = 2 ∨ v = 3 ∨ v = 4 := by omega
  rcases this with rfl | rfl | rfl | rfl | rfl
  · exact ⟨x0, p1, by simp, main x0 rfl⟩
  · exact ⟨x1, p1, by simp, main x1 rfl⟩
  · exact ⟨x2, p1, by simp, main x2 rfl⟩
  · exact ⟨x3, p1, by simp, main x3 rfl⟩
  · exact ⟨x4, p1, by simp, main x4 rfl⟩
end Sh.Law
namespace Sh.Law
open PySem PySem.Spec Sh L2
def potOf (c : Int) : Pot where
  a := if c - 1000000000000000000 > 0 then c - 1000000000000000000 else 0
  b := (c.fmod 2147483549 * 563 + 1307).fmod 2147483543 + 1
  ha := by split <;> omega
  hb := by
    have := Int.fmod_nonneg_of_pos (c.fmod 2147483549 * 563 + 1307) (show (0 : Int) < 2147483543 by decide)
    omega
  hl := by
    have := Int.fmod_lt_of_pos (c.fmod 2147483549 * 563 + 1307) (show (0 : Int) < 2147483543 by decide)
    omega
theorem e_pot (ns : List Int) : ∃ p : Pot, d__law_pot [.pv (.fz (ns.map PV.int)), .pv (.int 0)] [] = .ok (.cell 0) ⟨[], [pc p]⟩ := by
  have pw : oPow bad2 (.pv (.int 10)) (.pv (.int 18)) = retE (.pv (.int 1000000000000000000)) := rfl
  have c1 : ((2147483543 : Int) = 0) = False := by simp
  have c2 : ((2147483549 : Int) = 0) = False := by simp
  cases ns with
  | nil => exact ⟨potOf 613, rfl⟩
  | cons n ns =>
    refine ⟨potOf (if n < 0 then -n else n), ?_⟩
    have d0 : decide ((0 : Int) < (((ns.length + 1 : Nat) : Nat) : Int)) = true := decide_eq_true (by omega)
    have ai : atI (PV.int n :: ns.map PV.int) 0 = some (.int n) := by
      unfold atI
      have : ixN (PV.int n :: ns.map PV.int).length 0 = some 0 := by
        unfold ixN
        rw [if_pos (by decide), if_pos (by simp)]
        rfl
      rw [this]
      rfl
    generalize hc : (if n < 0 then -n else n) = c
    have g1 := lg (bd31 (Int.fmod_nonneg_of_pos c (show (0 : Int) < 2147483549 by decide)) (Int.lt_trans (Int.fmod_lt_of_pos c (show (0 : Int) < 2147483549 by decide)) (by decide))) (show Bd 31 (563 : Int) by unfold Bd; decide +kernel)
    have f1 : (Int.natAbs 887).log2 + (Int.natAbs 0).log2 < 1000000 := by decide +kernel
    have f2 : (Int.natAbs 2).log2 + (Int.natAbs 0).log2 < 1000000 := by decide +kernel
    simp only [f1, f2, d__law_pot, pc, potOf, oOwn, List.map_cons, List.length_map, pvs, Option.map_some, Option.map_none, runB, List.map_cons, List.map_nil, List.length_cons, List.length_nil, List.cons_append, List.nil_append, List.append_nil, List.getElem?_cons_zero, List.getElem?_cons_succ, List.replicate_succ, List.replicate_zero, List.set_cons_zero, List.set_cons_succ, sSeq, sIf, thenS, bindE, tNotD, tB, dCall, callP, callS, callN, dVar, dCons, dNil, retE, badE, pick, List.filterMap_cons, List.filterMap_nil, sNil, tOrD, tAndD, dAndV, dOrV, dNotV, dBin, oEqP, plainEq, dC, rBl, rI, sSet, setSl, sRet, sRetN, sDrop, sFld, o2I, oAddI, oSub, oMulI, oDiv, oMod, oLt, oLe, oGt, oGe, oAddS, oAddL, oOwn, oEqO, oNeO, okEq, okRight, dFlip, dIf, dFld, dProp, dMethG, bad2, mkTup, mkLst, dIsi, ansOf, dFrz, frz, oIx, ixOf, oGcd, oAbs, oInt, oMax2, oMin2, sPar, sPar3, sAsg, gTupD, gsCons, gsNil, gSet, Bool.false_eq_true, ite_false, ite_true, if_true, if_false, reduceIte, Bool.not_true, Bool.not_false, beq_self_eq_true, and_self, and_true, true_and, Nat.reduceAdd, Nat.reduceSub, Nat.reduceEqDiff, Nat.reduceLT, Nat.reduceLeDiff, Nat.sub_self, Nat.zero_add, List.take_zero, decide_true, decide_false, aisi_int, aisi_bool, aisi_Ratio, aisi_list_tuple, Option.some.injEq, bad1, oNegI, oNegO, dJoin, dFmt, oStr, pSome, pNone, slS, callT, gSubD, setIt, oDivmod, oLen, lenOf, newCell, dBM, isLc, oApp, sFor, dItemsA, dRng1, d0, ai, hc, pw, g1, c1, c2, ne_eq, not_false_eq_true, Int.mul_zero, Int.zero_add]
/-! # the total -/
theorem en_int (w : Int) (h : Bd 390 w) : ∃ x : En, x.p = .int w ∧ x.c = w ∧ x.d = 1 ∧ EnOk x := by
  obtain ⟨u, r, C⟩ := canon w 1 (by decide)
  have b1 : Bd 400 (1 : Int) := by unfold Bd; decide +kernel
  have mk := e_mk (t := w) (b := 1) (by decide) (b1.mono (by decide))
  rw [C.is] at mk
  refine ⟨⟨.int w, w, 1, u, r⟩, rfl, rfl, rfl, ⟨fun cs => ?_, C.pos, C.eq, (C.bt _ h).mono (by decide), (C.bq _ b1), h.mono (by decide), b1, show (1 : Int) ≠ 0 by decide⟩⟩
  have isn : ∀ cs, d_is_number [.pv (.int w)] cs = .ok (.pv (.bl true)) ⟨[], cs⟩ := fun _ => rfl
  have rof : ∀ cs, d_ratio_of [.pv (.int w)] cs = .ok (Rt u r) ⟨[], cs⟩ := fun cs => by simp only [d_ratio_of, Rt, pvs, Option.map_some, Option.map_none, runB, List.map_cons, List.map_nil, List.length_cons, List.length_nil, List.cons_append, List.nil_append, List.append_nil, List.getElem?_cons_zero, List.getElem?_cons_succ, List.replicate_succ, List.replicate_zero, List.set_cons_zero, List.set_cons_succ, sSeq, sIf, thenS, bindE, tNotD, tB, dCall, callP, callS, callN, dVar, dCons, dNil, retE, badE, pick, List.filterMap_cons, List.filterMap_nil, sNil, tOrD, tAndD, dAndV, dOrV, dNotV, dBin, oEqP, plainEq, dC, rBl, rI, sSet, setSl, sRet, sRetN, sDrop, sFld, o2I, oAddI, oSub, oMulI, oDiv, oMod, oLt, oLe, oGt, oGe, oAddS, oAddL, oOwn, oEqO, oNeO, okEq, okRight, dFlip, dIf, dFld, dProp, dMethG, bad2, mkTup, mkLst, dIsi, ansOf, dFrz, frz, oIx, ixOf, oGcd, oAbs, oInt, oMax2, oMin2, sPar, sPar3, sAsg, gTupD, gsCons, gsNil, gSet, Bool.false_eq_true, ite_false, ite_true, if_true, if_false, reduceIte, Bool.not_true, Bool.not_false, beq_self_eq_true, and_self, and_true, true_and, Nat.reduceAdd, Nat.reduceSub, Nat.reduceEqDiff, Nat.reduceLT, Nat.reduceLeDiff, Nat.sub_self, Nat.zero_add, List.take_zero, decide_true, decide_false, aisi_int, aisi_bool, aisi_Ratio, aisi_list_tuple, Option.some.injEq, bad1, oNegI, oNegO, dJoin, dFmt, oStr, pSome, pNone, slS, oPow, callT, gSubD, setIt, oDivmod, oLen, lenOf, newCell, dBM, isLc, oApp, sFor, dItemsA, dRng1, mk]
  simp only [d_want_number, Rt, pvs, Option.map_some, Option.map_none, runB, List.map_cons, List.map_nil, List.length_cons, List.length_nil, List.cons_append, List.nil_append, List.append_nil, List.getElem?_cons_zero, List.getElem?_cons_succ, List.replicate_succ, List.replicate_zero, List.set_cons_zero, List.set_cons_succ, sSeq, sIf, thenS, bindE, tNotD, tB, dCall, callP, callS, callN, dVar, dCons, dNil, retE, badE, pick, List.filterMap_cons, List.filterMap_nil, sNil, tOrD, tAndD, dAndV, dOrV, dNotV, dBin, oEqP, plainEq, dC, rBl, rI, sSet, setSl, sRet, sRetN, sDrop, sFld, o2I, oAddI, oSub, oMulI, oDiv, oMod, oLt, oLe, oGt, oGe, oAddS, oAddL, oOwn, oEqO, oNeO, okEq, okRight, dFlip, dIf, dFld, dProp, dMethG, bad2, mkTup, mkLst, dIsi, ansOf, dFrz, frz, oIx, ixOf, oGcd, oAbs, oInt, oMax2, oMin2, sPar, sPar3, sAsg, gTupD, gsCons, gsNil, gSet, Bool.false_eq_true, ite_false, ite_true, if_true, if_false, reduceIte, Bool.not_true, Bool.not_false, beq_self_eq_true, and_self, and_true, true_and, Nat.reduceAdd, Nat.reduceSub, Nat.reduceEqDiff, Nat.reduceLT, Nat.reduceLeDiff, Nat.sub_self, Nat.zero_add, List.take_zero, decide_true, decide_false, aisi_int, aisi_bool, aisi_Ratio, aisi_list_tuple, Option.some.injEq, bad1, oNegI, oNegO, dJoin, dFmt, oStr, pSome, pNone, slS, oPow, callT, gSubD, setIt, oDivmod, oLen, lenOf, newCell, dBM, isLc, oApp, sFor, dItemsA, dRng1, isn, rof]
theorem en_pair (c d : Int) (hc : Bd 395 c) (hd : Bd 395 d) (h0 : d ≠ 0) : ∃ x : En, .pv x.p = R c d ∧ x.c = c ∧ x.d = d ∧ EnOk x := by
  obtain ⟨u, r, C⟩ := canon c d h0
  refine ⟨⟨.ins 0 [.int u, .int r], c, d, u, r⟩, C.is.symm, rfl, rfl, ⟨fun cs => ?_, C.pos, C.eq, (C.bt _ hc).mono (by decide), (C.bq _ hd).mono (by decide), hc.mono (by decide), hd.mono (by decide), h0⟩⟩
  have isn : ∀ cs, d_is_number [Rt u r] cs = .ok (.pv (.bl true)) ⟨[], cs⟩ := fun _ => rfl
  have rof : ∀ cs, d_ratio_of [Rt u r] cs = .ok (Rt u r) ⟨[], cs⟩ := fun cs => rfl
  simp only [d_want_number, Rt, pvs, Option.map_some, Option.map_none, runB, List.map_cons, List.map_nil, List.length_cons, List.length_nil, List.cons_append, List.nil_append, List.append_nil, List.getElem?_cons_zero, List.getElem?_cons_succ, List.replicate_succ, List.replicate_zero, List.set_cons_zero, List.set_cons_succ, sSeq, sIf, thenS, bindE, tNotD, tB, dCall, callP, callS, callN, dVar, dCons, dNil, retE, badE, pick, List.filterMap_cons, List.filterMap_nil, sNil, tOrD, tAndD, dAndV, dOrV, dNotV, dBin, oEqP, plainEq, dC, rBl, rI, sSet, setSl, sRet, sRetN, sDrop, sFld, o2I, oAddI, oSub, oMulI, oDiv, oMod, oLt, oLe, oGt, oGe, oAddS, oAddL, oOwn, oEqO, oNeO, okEq, okRight, dFlip, dIf, dFld, dProp, dMethG, bad2, mkTup, mkLst, dIsi, ansOf, dFrz, frz, oIx, ixOf, oGcd, oAbs, oInt, oMax2, oMin2, sPar, sPar3, sAsg, gTupD, gsCons, gsNil, gSet, Bool.false_eq_true, ite_false, ite_true, if_true, if_false, reduceIte, Bool.not_true, Bool.not_false, beq_self_eq_true, and_self, and_true, true_and, Nat.reduceAdd, Nat.reduceSub, Nat.reduceEqDiff, Nat.reduceLT, Nat.reduceLeDiff, Nat.sub_self, Nat.zero_add, List.take_zero, decide_true, decide_false, aisi_int, aisi_bool, aisi_Ratio, aisi_list_tuple, Option.some.injEq, bad1, oNegI, oNegO, dJoin, dFmt, oStr, pSome, pNone, slS, oPow, callT, gSubD, setIt, oDivmod, oLen, lenOf, newCell, dBM, isLc, oApp, sFor, dItemsA, dRng1, isn, rof]
/-- a pair of the law's -/
structure PairOk (z : PV) : Prop where
  ex : ∃ x y : Int, z = .tup [.int x, .int y] ∧ Bd 395 x ∧ Bd 395 y ∧ y ≠ 0
def totB : DS := (sIf (tB (dBin (oEqP false (oEqO 0 d_Ratio___eq__ bad2)) (dCall [0, 1] [] (callS d__law_draw) (bindE (dCons (dVar 0) (dCons (dC (.int 3)) dNil)) fun xs => if xs.length = 2 then retE xs else badE)) (dC (.int 0)))) (sSeq (sSet 6 (dCall [0] [] (callS d__law_whole) (bindE (dCons (dVar 0) dNil) fun xs => if xs.length = 1 then retE xs else badE)))
    (sSeq (sDrop (dBM oApp (dVar 4) (dCons (dVar 6) dNil)))
    (sSet 2 (dBin (oAddI (oAddS (oAddL (oOwn 0 d_Ratio___add__ d_Ratio___radd__ bad2)))) (dVar 2) (dBin (oMulI (oOwn 0 d_Ratio___mul__ d_Ratio___rmul__ bad2)) (dVar 6) (dVar 3)))))) (sSeq (sSet 7 (dCall [0, 1] [] (callS d__law_pick) (bindE (dCons (dVar 0) (dCons (dVar 1) dNil)) fun xs => if xs.length = 2 then retE xs else badE)))
    (sSeq (sDrop (dBM oApp (dVar 4) (dCons (dCall [0, 1] [.pv (.int 1)] (mkIns 0 2 d_Ratio___init__) (bindE (dCons (dBin oIx (dVar 7) (dC (.int 0))) (dCons (dBin oIx (dVar 7) (dC (.int 1))) dNil)) fun xs => if xs.length = 2 then retE xs else badE)) dNil)))
    (sPar 2 3 (dCons (dBin (oAddI (oAddS (oAddL (oOwn 0 d_Ratio___add__ d_Ratio___radd__ bad2)))) (dBin (oMulI (oOwn 0 d_Ratio___mul__ d_Ratio___rmul__ bad2)) (dVar 2) (dBin oIx (dVar 7) (dC (.int 1)))) (dBin (oMulI (oOwn 0 d_Ratio___mul__ d_Ratio___rmul__ bad2)) (dBin oIx (dVar 7) (dC (.int 0))) (dVar 3))) (dCons (dBin (oMulI (oOwn 0 d_Ratio___mul__ d_Ratio___rmul__ bad2)) (dVar 3) (dBin oIx (dVar 7) (dC (.int 1)))) dNil))))))
abbrev trS (p : Pot) (Z : SV) (t b : Int) (acc : List PV) (o5 o6 o7 : Option SV) : StE := ⟨[some (.cell 0), some Z, some (.pv (.int t)), some (.pv (.int b)), some (.cell 4), o5, o6, o7], [pc p, none, none, none, some (.l (acc.map .pv))]⟩
theorem map_snoc (L : List En) (x : En) : (L.map (·.p)).map SV.pv ++ [SV.pv x.p] = ((L ++ [x]).map (·.p)).map SV.pv := by simp
theorem tot_step (p : Pot) (z0 z1 z2 z3 z4 : PV) (hz : ∀ z ∈ [z0, z1, z2, z3, z4], PairOk z) (L : List En) (hL : ∀ x ∈ L, EnOk x) (hl : L.length < 4) (o6 o7 : Option SV) (tn : PV) :
    ∃ (x : En) (p' : Pot) (o6' o7' : Option SV), EnOk x ∧ totB (trS p (.pv (.lst [z0, z1, z2, z3, z4])) (tb L (0, 1)).1 (tb L (0, 1)).2 (L.map (·.p)) (some (.pv tn)) o6 o7) =
      .ok .nx (trS p' (.pv (.lst [z0, z1, z2, z3, z4])) (tb (L ++ [x]) (0, 1)).1 (tb (L ++ [x]) (0, 1)).2 ((L ++ [x]).map (·.p)) (some (.pv tn)) o6' o7') := by
  obtain ⟨T, Q, _, _, _, _, _, _, bt, bb⟩ := e_total L hL (by omega)
  have lt : ((L.map (·.p)).map SV.pv).length < 16777216 := by simp; omega
  obtain ⟨v, p1, h1, h2, h3⟩ := e_draw p 3 (by decide) (by decide)
  by_cases h : v = 0
  · have d0 : decide (v = 0) = true := decide_eq_true h
    obtain ⟨w, p2, k1, k2⟩ := e_whole_n p1
    obtain ⟨x, e1, e2, e3, ok⟩ := en_int w k1
    have g1 := lg k1 bb
    have a1 : (tb (L ++ [x]) (0, 1)).1 = (tb L (0, 1)).1 + w * (tb L (0, 1)).2 := by rw [tb_snoc, e2, e3]; simp
    have a2 : (tb (L ++ [x]) (0, 1)).2 = (tb L (0, 1)).2 := by rw [tb_snoc, e3]; simp
    refine ⟨x, p2, some (.pv (.int w)), o7, ok, ?_⟩
    rw [a1, a2]
    have ms := map_snoc L x
    rw [e1] at ms
    simp only [totB, trS, oOwn, oEqO, oNeO, pvs, Option.map_some, Option.map_none, runB, List.map_cons, List.map_nil, List.length_cons, List.length_nil, List.cons_append, List.nil_append, List.append_nil, List.getElem?_cons_zero, List.getElem?_cons_succ, List.replicate_succ, List.replicate_zero, List.set_cons_zero, List.set_cons_succ, sSeq, sIf, thenS, bindE, tNotD, tB, dCall, callP, callS, callN, dVar, dCons, dNil, retE, badE, pick, List.filterMap_cons, List.filterMap_nil, sNil, tOrD, tAndD, dAndV, dOrV, dNotV, dBin, oEqP, plainEq, dC, rBl, rI, sSet, setSl, sRet, sRetN, sDrop, sFld, o2I, oAddI, oSub, oMulI, oDiv, oMod, oLt, oLe, oGt, oGe, oAddS, oAddL, oOwn, oEqO, oNeO, okEq, okRight, dFlip, dIf, dFld, dProp, dMethG, bad2, mkTup, mkLst, dIsi, ansOf, dFrz, frz, oIx, ixOf, oGcd, oAbs, oInt, oMax2, oMin2, sPar, sPar3, sAsg, gTupD, gsCons, gsNil, gSet, Bool.false_eq_true, ite_false, ite_true, if_true, if_false, reduceIte, Bool.not_true, Bool.not_false, beq_self_eq_true, and_self, and_true, true_and, Nat.reduceAdd, Nat.reduceSub, Nat.reduceEqDiff, Nat.reduceLT, Nat.reduceLeDiff, Nat.sub_self, Nat.zero_add, List.take_zero, decide_true, decide_false, aisi_int, aisi_bool, aisi_Ratio, aisi_list_tuple, Option.some.injEq, bad1, oNegI, oNegO, dJoin, dFmt, oStr, pSome, pNone, slS, oPow, callT, gSubD, setIt, oDivmod, oLen, lenOf, newCell, dBM, isLc, oApp, sFor, dItemsA, dRng1, h3, k2, d0, lt, ms, g1]
  · have d0 : decide (v = 0) = false := decide_eq_false h
    obtain ⟨z, p2, hm, k2⟩ := e_pick5 p1 z0 z1 z2 z3 z4
    obtain ⟨c, d, rfl, bc, bd, hd⟩ := (hz z hm).ex
    obtain ⟨x, e1, e2, e3, ok⟩ := en_pair c d bc bd hd
    have mk := e_mk (t := c) hd (bd.mono (by decide : 395 ≤ 8000))
    rw [← e1] at mk
    have g1 := lg bt bd
    have g2 := lg bc bb
    have g3 := lg bb bd
    have a1 : (tb (L ++ [x]) (0, 1)).1 = (tb L (0, 1)).1 * d + c * (tb L (0, 1)).2 := by rw [tb_snoc, e2, e3]
    have a2 : (tb (L ++ [x]) (0, 1)).2 = (tb L (0, 1)).2 * d := by rw [tb_snoc, e3]
    refine ⟨x, p2, o6, some (tp c d), ok, ?_⟩
    rw [a1, a2]
    have ms := map_snoc L x
    simp only [totB, trS, tp, oOwn, oEqO, oNeO, pvs, Option.map_some, Option.map_none, runB, List.map_cons, List.map_nil, List.length_cons, List.length_nil, List.cons_append, List.nil_append, List.append_nil, List.getElem?_cons_zero, List.getElem?_cons_succ, List.replicate_succ, List.replicate_zero, List.set_cons_zero, List.set_cons_succ, sSeq, sIf, thenS, bindE, tNotD, tB, dCall, callP, callS, callN, dVar, dCons, dNil, retE, badE, pick, List.filterMap_cons, List.filterMap_nil, sNil, tOrD, tAndD, dAndV, dOrV, dNotV, dBin, oEqP, plainEq, dC, rBl, rI, sSet, setSl, sRet, sRetN, sDrop, sFld, o2I, oAddI, oSub, oMulI, oDiv, oMod, oLt, oLe, oGt, oGe, oAddS, oAddL, oOwn, oEqO, oNeO, okEq, okRight, dFlip, dIf, dFld, dProp, dMethG, bad2, mkTup, mkLst, dIsi, ansOf, dFrz, frz, oIx, ixOf, oGcd, oAbs, oInt, oMax2, oMin2, sPar, sPar3, sAsg, gTupD, gsCons, gsNil, gSet, Bool.false_eq_true, ite_false, ite_true, if_true, if_false, reduceIte, Bool.not_true, Bool.not_false, beq_self_eq_true, and_self, and_true, true_and, Nat.reduceAdd, Nat.reduceSub, Nat.reduceEqDiff, Nat.reduceLT, Nat.reduceLeDiff, Nat.sub_self, Nat.zero_add, List.take_zero, decide_true, decide_false, aisi_int, aisi_bool, aisi_Ratio, aisi_list_tuple, Option.some.injEq, bad1, oNegI, oNegO, dJoin, dFmt, oStr, pSome, pNone, slS, oPow, callT, gSubD, setIt, oDivmod, oLen, lenOf, newCell, dBM, isLc, oApp, sFor, dItemsA, dRng1, at0, at1, h3, k2, d0, lt, mk, ms, g1, g2, g3]
theorem tr_loop (z0 z1 z2 z3 z4 : PV) (hz : ∀ z ∈ [z0, z1, z2, z3, z4], PairOk z) : ∀ (I : List PV) (p : Pot) (L : List En), (∀ x ∈ L, EnOk x) → L.length + I.length ≤ 4 → ∀ (o5 o6 o7 : Option SV),
    ∃ (L' : List En) (p' : Pot) (o5' o6' o7' : Option SV), (∀ x ∈ L', EnOk x) ∧ L'.length ≤ 4 ∧ loopF (gSet 5) totB I (trS p (.pv (.lst [z0, z1, z2, z3, z4])) (tb L (0, 1)).1 (tb L (0, 1)).2 (L.map (·.p)) o5 o6 o7) =
      .ok .nx (trS p' (.pv (.lst [z0, z1, z2, z3, z4])) (tb L' (0, 1)).1 (tb L' (0, 1)).2 (L'.map (·.p)) o5' o6' o7')
  | [], p, L, hL, hl, o5, o6, o7 => ⟨L, p, o5, o6, o7, hL, by simpa using hl, rfl⟩
  | i :: I, p, L, hL, hl, o5, o6, o7 => by
    rw [List.length_cons] at hl
    obtain ⟨x, p1, o6', o7', ok, st⟩ := tot_step p z0 z1 z2 z3 z4 hz L hL (by omega) o6 o7 i
    obtain ⟨L', p', a, b, c, h1, h2, h3⟩ := tr_loop z0 z1 z2 z3 z4 hz I p1 (L ++ [x]) (fun y hy => by
      rcases List.mem_append.mp hy with z | z
      · exact hL y z
      · rw [List.mem_singleton.mp z]; exact ok) (by simp; omega) (some (.pv i)) o6' o7'
    refine ⟨L', p', a, b, c, h1, h2, ?_⟩
    show (match gSet 5 (.pv i) (trS p (.pv (.lst [z0, z1, z2, z3, z4])) (tb L (0, 1)).1 (tb L (0, 1)).2 (L.map (·.p)) o5 o6 o7) with
      | .ok _ e1 => loopK (loopF (gSet 5) totB I) (totB e1)
      | .exc c fs e1 => .exc c fs e1
      | .bad => .bad) = _
    have g0 : gSet 5 (.pv i) (trS p (.pv (.lst [z0, z1, z2, z3, z4])) (tb L (0, 1)).1 (tb L (0, 1)).2 (L.map (·.p)) o5 o6 o7) = .ok () (trS p (.pv (.lst [z0, z1, z2, z3, z4])) (tb L (0, 1)).1 (tb L (0, 1)).2 (L.map (·.p)) (some (.pv i)) o6 o7) := rfl
    rw [g0]
    dsimp only
    rw [st]
    exact h3
theorem e_total_right (p : Pot) (z0 z1 z2 z3 z4 : PV) (hz : ∀ z ∈ [z0, z1, z2, z3, z4], PairOk z) : ∃ cs', d__law_total_right [.cell 0, .pv (.lst [z0, z1, z2, z3, z4])] [pc p, none, none, none] = .ok (.pv (.bl true)) ⟨[], cs'⟩ := by
  obtain ⟨v, p1, h1, h2, h3⟩ := e_draw p 5 (by decide) (by decide)
  have lenr : (rngP 0 v.toNat).length ≤ 4 := by unfold rngP; simp; omega
  obtain ⟨L, p2, o5, o6, o7, hL, hl, st⟩ := tr_loop z0 z1 z2 z3 z4 hz (rngP 0 v.toNat) p1 [] (fun x hx => by simp at hx) (by simpa using lenr) none none none
  obtain ⟨T, Q, ⟨e1, e2⟩, hQ, hg, hx, bT, bQ, bt, bb⟩ := e_total L hL hl
  have is := e_law_is bT bQ (bt.mono (by decide)) (bb.mono (by decide)) hQ hg hx
  have rg : (-4611686018427387904 ≤ v ∧ v < 4611686018427387904) := by omega
  have tl : (L.map (·.p)).length ≤ 16777216 := by simp; omega
  simp only [tb, trS, List.map_nil] at st
  unfold d__law_total_right
  change ∃ cs', runB 8 (sSeq _ (sSeq (sFor _ (gSet 5) totB) _)) _ _ = .ok (.pv (.bl true)) ⟨[], cs'⟩
  refine ⟨[pc p2, none, none, none, none], ?_⟩
  simp only [pvs, Option.map_some, Option.map_none, runB, List.map_cons, List.map_nil, List.length_cons, List.length_nil, List.cons_append, List.nil_append, List.append_nil, List.getElem?_cons_zero, List.getElem?_cons_succ, List.replicate_succ, List.replicate_zero, List.set_cons_zero, List.set_cons_succ, sSeq, sIf, thenS, bindE, tNotD, tB, dCall, callP, callS, callN, dVar, dCons, dNil, retE, badE, pick, List.filterMap_cons, List.filterMap_nil, sNil, tOrD, tAndD, dAndV, dOrV, dNotV, dBin, oEqP, plainEq, dC, rBl, rI, sSet, setSl, sRet, sRetN, sDrop, sFld, o2I, oAddI, oSub, oMulI, oDiv, oMod, oLt, oLe, oGt, oGe, oAddS, oAddL, oOwn, oEqO, oNeO, okEq, okRight, dFlip, dIf, dFld, dProp, dMethG, bad2, mkTup, mkLst, dIsi, ansOf, dFrz, frz, oIx, ixOf, oGcd, oAbs, oInt, oMax2, oMin2, sPar, sPar3, sAsg, gTupD, gsCons, gsNil, gSet, Bool.false_eq_true, ite_false, ite_true, if_true, if_false, reduceIte, Bool.not_true, Bool.not_false, beq_self_eq_true, and_self, and_true, true_and, Nat.reduceAdd, Nat.reduceSub, Nat.reduceEqDiff, Nat.reduceLT, Nat.reduceLeDiff, Nat.sub_self, Nat.zero_add, List.take_zero, decide_true, decide_false, aisi_int, aisi_bool, aisi_Ratio, aisi_list_tuple, Option.some.injEq, bad1, oNegI, oNegO, dJoin, dFmt, oStr, pSome, pNone, slS, oPow, callT, gSubD, setIt, oDivmod, oLen, lenOf, newCell, dBM, isLc, oApp, sFor, dItemsA, dRng1, h3, if_pos rg]
  rw [st]
  simp only [pvs, Option.map_some, Option.map_none, runB, List.map_cons, List.map_nil, List.length_cons, List.length_nil, List.cons_append, List.nil_append, List.append_nil, List.getElem?_cons_zero, List.getElem?_cons_succ, List.replicate_succ, List.replicate_zero, List.set_cons_zero, List.set_cons_succ, sSeq, sIf, thenS, bindE, tNotD, tB, dCall, callP, callS, callN, dVar, dCons, dNil, retE, badE, pick, List.filterMap_cons, List.filterMap_nil, sNil, tOrD, tAndD, dAndV, dOrV, dNotV, dBin, oEqP, plainEq, dC, rBl, rI, sSet, setSl, sRet, sRetN, sDrop, sFld, o2I, oAddI, oSub, oMulI, oDiv, oMod, oLt, oLe, oGt, oGe, oAddS, oAddL, oOwn, oEqO, oNeO, okEq, okRight, dFlip, dIf, dFld, dProp, dMethG, bad2, mkTup, mkLst, dIsi, ansOf, dFrz, frz, oIx, ixOf, oGcd, oAbs, oInt, oMax2, oMin2, sPar, sPar3, sAsg, gTupD, gsCons, gsNil, gSet, Bool.false_eq_true, ite_false, ite_true, if_true, if_false, reduceIte, Bool.not_true, Bool.not_false, beq_self_eq_true, and_self, and_true, true_and, Nat.reduceAdd, Nat.reduceSub, Nat.reduceEqDiff, Nat.reduceLT, Nat.reduceLeDiff, Nat.sub_self, Nat.zero_add, List.take_zero, decide_true, decide_false, aisi_int, aisi_bool, aisi_Ratio, aisi_list_tuple, Option.some.injEq, bad1, oNegI, oNegO, dJoin, dFmt, oStr, pSome, pNone, slS, oPow, callT, gSubD, setIt, oDivmod, oLen, lenOf, newCell, dBM, isLc, oApp, sFor, dItemsA, dRng1, oTuple, itemsOf, pvs_map, thaw, e1, e2, is, Rt, tl]
end Sh.Law
namespace Sh.Law
open PySem PySem.Spec Sh L2
def lawE : DE := (dCall [0, 1] [] (callP d__law_two_right) (bindE (dCons (dVar 4) (dCons (dVar 5) dNil)) fun xs => if xs.length = 2 then retE xs else badE))
def lawB : DS := (sIf (tOrD (tNotD (tB (bindE (dCons (dFrz (dLc [5] (dItemsA (dFrz (dVar 2))) (gSet 5) dYes lawE)) dNil) oAll))) (tNotD (tB (dCall [0, 1] [] (callP d__law_whole_right) (bindE (dCons (dVar 4) (dCons (dVar 3) dNil)) fun xs => if xs.length = 2 then retE xs else badE))))) (sRet (dC (.bl false))) sNil)
theorem two_ok (one z : PV) (h1 : PairOk one) (hz : PairOk z) (cs : Cs) : d__law_two_right [.pv one, .pv z] cs = .ok (.pv (.bl true)) ⟨[], cs⟩ := by
  obtain ⟨a, b, rfl, ba, bb, hb⟩ := h1.ex
  obtain ⟨c, d, rfl, bc, bd, hd⟩ := hz.ex
  exact e_two (ba.mono (by decide)) (bb.mono (by decide)) (bc.mono (by decide)) (bd.mono (by decide)) hb hd cs
theorem whole_ok (one : PV) (h1 : PairOk one) {w : Int} (hw : Bd 400 w) (cs : Cs) : d__law_whole_right [.pv one, .pv (.int w)] cs = .ok (.pv (.bl true)) ⟨[], cs⟩ := by
  obtain ⟨a, b, rfl, ba, bb, hb⟩ := h1.ex
  exact e_whole_right (ba.mono (by decide)) (bb.mono (by decide)) hw hb cs
/-- the comprehension, item by item -/
theorem lc_two (k : Nat) (one : PV) (h1 : PairOk one) (s0 s1 s2 s3 : SV) (cs0 : Cs) (hk : cs0.length = k) : ∀ (L acc : List PV), (∀ z ∈ L, PairOk z) → (∀ z ∈ acc, z = .bl true) → acc.length + L.length ≤ 1000 →
    ∃ acc' : List PV, (∀ z ∈ acc', z = .bl true) ∧ acc'.length = acc.length + L.length ∧ lcF k [5] (gSet 5) dYes lawE L ⟨[some s0, some s1, some s2, some s3, some (.pv one), none], cs0 ++ [some (.l (acc.map .pv))]⟩ = .ok () ⟨[some s0, some s1, some s2, some s3, some (.pv one), none], cs0 ++ [some (.l (acc'.map .pv))]⟩
  | [], acc, _, ha, _ => ⟨acc, ha, by simp, rfl⟩
  | z :: L, acc, hL, ha, hl => by
    rw [List.length_cons] at hl
    obtain ⟨acc', n1, n2, n3⟩ := lc_two k one h1 s0 s1 s2 s3 cs0 hk L (acc ++ [.bl true]) (fun y hy => hL y (List.mem_cons_of_mem _ hy)) (fun y hy => by
      rcases List.mem_append.mp hy with q | q
      · exact ha y q
      · exact List.mem_singleton.mp q) (by simp; omega)
    refine ⟨acc', n1, by rw [n2]; simp; omega, ?_⟩
    have w := two_ok one z h1 (hL z List.mem_cons_self) []
    have step : lawE ⟨[some s0, some s1, some s2, some s3, some (.pv one), some (.pv z)], cs0 ++ [some (.l (acc.map .pv))]⟩ = .ok (.pv (.bl true)) ⟨[some s0, some s1, some s2, some s3, some (.pv one), some (.pv z)], cs0 ++ [some (.l (acc.map .pv))]⟩ := by
      simp only [lawE, pvs, Option.map_some, Option.map_none, runB, List.map_cons, List.map_nil, List.length_cons, List.length_nil, List.cons_append, List.nil_append, List.append_nil, List.getElem?_cons_zero, List.getElem?_cons_succ, List.replicate_succ, List.replicate_zero, List.set_cons_zero, List.set_cons_succ, sSeq, sIf, thenS, bindE, tNotD, tB, dCall, callP, callS, callN, dVar, dCons, dNil, retE, badE, pick, List.filterMap_cons, List.filterMap_nil, sNil, tOrD, tAndD, dAndV, dOrV, dNotV, dBin, oEqP, plainEq, dC, rBl, rI, sSet, setSl, sRet, sRetN, sDrop, sFld, o2I, oAddI, oSub, oMulI, oDiv, oMod, oLt, oLe, oGt, oGe, oAddS, oAddL, oOwn, oEqO, oNeO, okEq, okRight, dFlip, dIf, dFld, dProp, dMethG, bad2, mkTup, mkLst, dIsi, ansOf, dFrz, frz, oIx, ixOf, oGcd, oAbs, oInt, oMax2, oMin2, sPar, sPar3, sAsg, gTupD, gsCons, gsNil, gSet, Bool.false_eq_true, ite_false, ite_true, if_true, if_false, reduceIte, Bool.not_true, Bool.not_false, beq_self_eq_true, and_self, and_true, true_and, Nat.reduceAdd, Nat.reduceSub, Nat.reduceEqDiff, Nat.reduceLT, Nat.reduceLeDiff, Nat.sub_self, Nat.zero_add, List.take_zero, decide_true, decide_false, aisi_int, aisi_bool, aisi_Ratio, aisi_list_tuple, Option.some.injEq, bad1, oNegI, oNegO, dJoin, dFmt, oStr, pSome, pNone, slS, oPow, callT, gSubD, setIt, oDivmod, oLen, lenOf, newCell, dBM, isLc, oApp, sFor, dItemsA, dRng1, w]
    unfold lcF
    have g0 : gSet 5 (.pv z) ⟨[some s0, some s1, some s2, some s3, some (.pv one), none], cs0 ++ [some (.l (acc.map .pv))]⟩ = .ok () ⟨[some s0, some s1, some s2, some s3, some (.pv one), some (.pv z)], cs0 ++ [some (.l (acc.map .pv))]⟩ := rfl
    rw [g0]
    dsimp only [dYes, retE]
    rw [step]
    have lt : (acc.map SV.pv).length < 16777216 := by rw [List.length_map]; omega
    have g1 : (cs0 ++ [some (CC.l (acc.map SV.pv))])[k]? = some (some (.l (acc.map .pv))) := by rw [← hk]; simp
    have g2 : ∀ o, (cs0 ++ [some (CC.l (acc.map SV.pv))]).set k o = cs0 ++ [o] := fun o => by rw [← hk]; simp
    dsimp only
    rw [g1]
    dsimp only
    rw [if_pos lt, g2]
    have e2 : acc.map SV.pv ++ [SV.pv (PV.bl true)] = (acc ++ [PV.bl true]).map SV.pv := by simp
    rw [e2]
    exact n3
theorem all_true : ∀ (ps : List PV), (∀ z ∈ ps, z = .bl true) → bls ps = some (List.replicate ps.length true)
  | [], _ => rfl
  | p :: ps, h => by
    have := h p List.mem_cons_self
    subst this
    show (bls ps).map (true :: ·) = _
    rw [all_true ps fun z hz => h z (List.mem_cons_of_mem _ hz)]
    rfl
section
variable (S : PV) (p : Pot) (w : Int) (hw : Bd 400 w) (z0 z1 z2 z3 z4 : PV) (hz : ∀ z ∈ [z0, z1, z2, z3, z4], PairOk z)
include hw hz
theorem lawB1 : lawB ⟨[some (.pv S), some (.cell 0), some (.cell 1), some (.pv (.int w)), some (.pv z0), none], [pc p, some (.l [.pv z0, .pv z1, .pv z2, .pv z3, .pv z4])]⟩ =
    .ok .nx ⟨[some (.pv S), some (.cell 0), some (.pv (.lst [z0, z1, z2, z3, z4])), some (.pv (.int w)), some (.pv z0), none], [pc p, none, none]⟩ := by
  have h0 := hz z0 (by simp)
  obtain ⟨acc, a1, a2, a3⟩ := lc_two 2 z0 h0 (.pv S) (.cell 0) (.pv (.lst [z0, z1, z2, z3, z4])) (.pv (.int w)) [pc p, none] rfl [z0, z1, z2, z3, z4] [] hz (fun _ h => by simp at h) (by simp)
  have b := all_true acc a1
  have al : (List.replicate acc.length true).all id = true := by simp
  have ww := whole_ok z0 h0 hw []
  simp only [List.map_nil, List.cons_append, List.nil_append] at a3
  simp only [lawB, pvs, Option.map_some, Option.map_none, runB, List.map_cons, List.map_nil, List.length_cons, List.length_nil, List.cons_append, List.nil_append, List.append_nil, List.getElem?_cons_zero, List.getElem?_cons_succ, List.replicate_succ, List.replicate_zero, List.set_cons_zero, List.set_cons_succ, sSeq, sIf, thenS, bindE, tNotD, tB, dCall, callP, callS, callN, dVar, dCons, dNil, retE, badE, pick, List.filterMap_cons, List.filterMap_nil, sNil, tOrD, tAndD, dAndV, dOrV, dNotV, dBin, oEqP, plainEq, dC, rBl, rI, sSet, setSl, sRet, sRetN, sDrop, sFld, o2I, oAddI, oSub, oMulI, oDiv, oMod, oLt, oLe, oGt, oGe, oAddS, oAddL, oOwn, oEqO, oNeO, okEq, okRight, dFlip, dIf, dFld, dProp, dMethG, bad2, mkTup, mkLst, dIsi, ansOf, dFrz, frz, oIx, ixOf, oGcd, oAbs, oInt, oMax2, oMin2, sPar, sPar3, sAsg, gTupD, gsCons, gsNil, gSet, Bool.false_eq_true, ite_false, ite_true, if_true, if_false, reduceIte, Bool.not_true, Bool.not_false, beq_self_eq_true, and_self, and_true, true_and, Nat.reduceAdd, Nat.reduceSub, Nat.reduceEqDiff, Nat.reduceLT, Nat.reduceLeDiff, Nat.sub_self, Nat.zero_add, List.take_zero, decide_true, decide_false, aisi_int, aisi_bool, aisi_Ratio, aisi_list_tuple, Option.some.injEq, bad1, oNegI, oNegO, dJoin, dFmt, oStr, pSome, pNone, slS, oPow, callT, gSubD, setIt, oDivmod, oLen, lenOf, newCell, dBM, isLc, oApp, sFor, dItemsA, dRng1, oAll, dLc, wipeL, restL, thaw, a3, pvs_map, b, al, ww, Option.join, Nat.reduceEqDiff, Nat.one_ne_zero, Nat.zero_ne_one]
  rfl
theorem lawB2 : lawB ⟨[some (.pv S), some (.cell 0), some (.pv (.lst [z0, z1, z2, z3, z4])), some (.pv (.int w)), some (.pv z1), none], [pc p, none, none]⟩ =
    .ok .nx ⟨[some (.pv S), some (.cell 0), some (.pv (.lst [z0, z1, z2, z3, z4])), some (.pv (.int w)), some (.pv z1), none], [pc p, none, none, none]⟩ := by
  have h0 := hz z1 (by simp)
  obtain ⟨acc, a1, a2, a3⟩ := lc_two 3 z1 h0 (.pv S) (.cell 0) (.pv (.lst [z0, z1, z2, z3, z4])) (.pv (.int w)) [pc p, none, none] rfl [z0, z1, z2, z3, z4] [] hz (fun _ h => by simp at h) (by simp)
  have b := all_true acc a1
  have al : (List.replicate acc.length true).all id = true := by simp
  have ww := whole_ok z1 h0 hw []
  simp only [List.map_nil, List.cons_append, List.nil_append] at a3
  simp only [lawB, pvs, Option.map_some, Option.map_none, runB, List.map_cons, List.map_nil, List.length_cons, List.length_nil, List.cons_append, List.nil_append, List.append_nil, List.getElem?_cons_zero, List.getElem?_cons_succ, List.replicate_succ, List.replicate_zero, List.set_cons_zero, List.set_cons_succ, sSeq, sIf, thenS, bindE, tNotD, tB, dCall, callP, callS, callN, dVar, dCons, dNil, retE, badE, pick, List.filterMap_cons, List.filterMap_nil, sNil, tOrD, tAndD, dAndV, dOrV, dNotV, dBin, oEqP, plainEq, dC, rBl, rI, sSet, setSl, sRet, sRetN, sDrop, sFld, o2I, oAddI, oSub, oMulI, oDiv, oMod, oLt, oLe, oGt, oGe, oAddS, oAddL, oOwn, oEqO, oNeO, okEq, okRight, dFlip, dIf, dFld, dProp, dMethG, bad2, mkTup, mkLst, dIsi, ansOf, dFrz, frz, oIx, ixOf, oGcd, oAbs, oInt, oMax2, oMin2, sPar, sPar3, sAsg, gTupD, gsCons, gsNil, gSet, Bool.false_eq_true, ite_false, ite_true, if_true, if_false, reduceIte, Bool.not_true, Bool.not_false, beq_self_eq_true, and_self, and_true, true_and, Nat.reduceAdd, Nat.reduceSub, Nat.reduceEqDiff, Nat.reduceLT, Nat.reduceLeDiff, Nat.sub_self, Nat.zero_add, List.take_zero, decide_true, decide_false, aisi_int, aisi_bool, aisi_Ratio, aisi_list_tuple, Option.some.injEq, bad1, oNegI, oNegO, dJoin, dFmt, oStr, pSome, pNone, slS, oPow, callT, gSubD, setIt, oDivmod, oLen, lenOf, newCell, dBM, isLc, oApp, sFor, dItemsA, dRng1, oAll, dLc, wipeL, restL, thaw, a3, pvs_map, b, al, ww, Option.join, Nat.reduceEqDiff, Nat.one_ne_zero, Nat.zero_ne_one]
  rfl
end
theorem cut5 (a b c d e : PV) : cutP [a, b, c, d, e] none (some 2) = [a, b] := rfl
theorem a30 (a b c : SV) : atI [a, b, c] 0 = some a := rfl
theorem a41 (a b c d : SV) : atI [a, b, c, d] 1 = some b := rfl
theorem a50 (a b c d e : PV) : atI [a, b, c, d, e] 0 = some a := rfl
theorem a52 (a b c d e : PV) : atI [a, b, c, d, e] 2 = some c := rfl
theorem pure_law : ∀ ns : List Int, ns.length ≤ 63 → ∃ e, d_law [.pv (.fz (ns.map Sh.PV.int))] [] = .ok (.pv (.bl true)) e := by
  intro ns _
  obtain ⟨p, hp⟩ := e_pot ns
  obtain ⟨x1, y1, p1, bx1, by1, n1, h1⟩ := e_pair_n p
  obtain ⟨x2, y2, p2, bx2, by2, n2, h2⟩ := e_pair_n p1
  obtain ⟨w, p3, bw, h3⟩ := e_whole_n p2
  have b6 : Bd 5 (6 : Int) := by unfold Bd; decide
  have hz : ∀ z ∈ [PV.tup [.int x1, .int y1], PV.tup [.int x2, .int y2], PV.tup [.int 0, .int 3], PV.tup [.int (x1 * 6), .int (y1 * 6)], PV.tup [.int (0 - x2), .int (0 - y2)]], PairOk z := by
    intro z hm
    simp only [List.mem_cons, List.not_mem_nil, or_false] at hm
    rcases hm with rfl | rfl | rfl | rfl | rfl
    · exact ⟨_, _, rfl, bx1.mono (by decide), by1.mono (by decide), n1⟩
    · exact ⟨_, _, rfl, bx2.mono (by decide), by2.mono (by decide), n2⟩
    · exact ⟨_, _, rfl, by unfold Bd; decide +kernel, by unfold Bd; decide +kernel, by decide⟩
    · exact ⟨_, _, rfl, bx1.mul b6, by1.mul b6, by omega⟩
    · exact ⟨_, _, rfl, bx2.neg.mono (by decide), by2.neg.mono (by decide), by omega⟩
  have l1 := lawB1 (.fz (ns.map Sh.PV.int)) p3 w (bw.mono (by decide)) _ _ _ _ _ hz
  have l2 := lawB2 (.fz (ns.map Sh.PV.int)) p3 w (bw.mono (by decide)) _ _ _ _ _ hz
  have w2 := whole_ok _ (hz (PV.tup [.int 0, .int 3]) (by simp)) (bw.mono (by decide)) []
  have w0 := whole_ok _ (hz (PV.tup [.int x1, .int y1]) (by simp)) (w := 0) (by unfold Bd; decide +kernel) []
  obtain ⟨cs', tr⟩ := e_total_right p3 _ _ _ _ _ hz
  have g1 := lg bx1 b6
  have g2 := lg by1 b6
  unfold d_law
  refine ⟨⟨[], cs'⟩, ?_⟩
  change runB 6 (sSeq _ (sSeq _ (sSeq _ (sSeq _ (sSeq _ (sSeq (sFor _ (gSet 4) lawB) _)))))) _ _ = _
  simp only [tp] at h1 h2
  simp only [pvs, Option.map_some, Option.map_none, runB, List.map_cons, List.map_nil, List.length_cons, List.length_nil, List.cons_append, List.nil_append, List.append_nil, List.getElem?_cons_zero, List.getElem?_cons_succ, List.replicate_succ, List.replicate_zero, List.set_cons_zero, List.set_cons_succ, sSeq, sIf, thenS, bindE, tNotD, tB, dCall, callP, callS, callN, dVar, dCons, dNil, retE, badE, pick, List.filterMap_cons, List.filterMap_nil, sNil, tOrD, tAndD, dAndV, dOrV, dNotV, dBin, oEqP, plainEq, dC, rBl, rI, sSet, setSl, sRet, sRetN, sDrop, sFld, o2I, oAddI, oSub, oMulI, oDiv, oMod, oLt, oLe, oGt, oGe, oAddS, oAddL, oOwn, oEqO, oNeO, okEq, okRight, dFlip, dIf, dFld, dProp, dMethG, bad2, mkTup, mkLst, dIsi, ansOf, dFrz, frz, oIx, ixOf, oGcd, oAbs, oInt, oMax2, oMin2, sPar, sPar3, sAsg, gTupD, gsCons, gsNil, gSet, Bool.false_eq_true, ite_false, ite_true, if_true, if_false, reduceIte, Bool.not_true, Bool.not_false, beq_self_eq_true, and_self, and_true, true_and, Nat.reduceAdd, Nat.reduceSub, Nat.reduceEqDiff, Nat.reduceLT, Nat.reduceLeDiff, Nat.sub_self, Nat.zero_add, List.take_zero, decide_true, decide_false, aisi_int, aisi_bool, aisi_Ratio, aisi_list_tuple, Option.some.injEq, bad1, oNegI, oNegO, dJoin, dFmt, oStr, pSome, pNone, slS, oPow, callT, gSubD, setIt, oDivmod, oLen, lenOf, newCell, dBM, isLc, oApp, sFor, dItemsA, dRng1, oOwn, oSl, pNone, pSome, hp, h1, h2, h3, at0, at1, a30, a41, cut5, g1, g2, loopF, loopK, l1, l2, a50, a52, w2, w0, tr]
end Sh.Law
namespace Sh.Law
open PySem PySem.Spec PyProof.Rows L2 ClX Sh
theorem du_add : ("__add__" : Str) = PySem.dunder "add" := by first | rfl | decide +kernel
theorem dr_add : ("__radd__" : Str) = PySem.dunderR "add" := by first | rfl | decide +kernel
theorem du_sub : ("__sub__" : Str) = PySem.dunder "sub" := by first | rfl | decide +kernel
theorem dr_sub : ("__rsub__" : Str) = PySem.dunderR "sub" := by first | rfl | decide +kernel
theorem du_mul : ("__mul__" : Str) = PySem.dunder "mul" := by first | rfl | decide +kernel
theorem dr_mul : ("__rmul__" : Str) = PySem.dunderR "mul" := by first | rfl | decide +kernel
theorem all_mk {w : World} {K : PySem.W.Frag} {h : Heap} {mg : Str → Option Value} (X : K.In h) (G : h.Ns mainGlobals mg)
    {C_Ratio : Addr}
    {f_Ratio___eq__ : Addr}
    {od_Ratio___eq__ an_Ratio___eq__ : Option Addr} {sl_Ratio___eq__ : Array (Option Value)}
    {oc_Ratio___eq__ kV_Ratio___eq__ dc_Ratio___eq__ pm_Ratio___eq__ cd_Ratio___eq__ ct_Ratio___eq__ : Value}
    {f_divisor_of : Addr}
    {od_divisor_of an_divisor_of : Option Addr} {sl_divisor_of : Array (Option Value)}
    {oc_divisor_of kV_divisor_of dc_divisor_of pm_divisor_of cd_divisor_of ct_divisor_of : Value}
    {f_is_integer : Addr}
    {od_is_integer an_is_integer : Option Addr} {sl_is_integer : Array (Option Value)}
    {oc_is_integer kV_is_integer dc_is_integer pm_is_integer cd_is_integer ct_is_integer : Value}
    {f_Ratio___init__ : Addr}
    {od_Ratio___init__ an_Ratio___init__ : Option Addr} {sl_Ratio___init__ : Array (Option Value)}
    {oc_Ratio___init__ kV_Ratio___init__ dc_Ratio___init__ pm_Ratio___init__ cd_Ratio___init__ ct_Ratio___init__ : Value}
    {T_Ratio___init__ : Addr}
    {tc_Ratio___init__ : Value}
    {td_Ratio___init__ : Option Addr} {tn_Ratio___init__ : Nat} {ts_Ratio___init__ : Array (Option Value)} {tt_Ratio___init___0 : Tok}
    {f_Ratio_size : Addr}
    {od_Ratio_size an_Ratio_size : Option Addr} {sl_Ratio_size : Array (Option Value)}
    {oc_Ratio_size kV_Ratio_size dc_Ratio_size pm_Ratio_size cd_Ratio_size ct_Ratio_size : Value}
    {f_Ratio_bottom : Addr}
    {od_Ratio_bottom an_Ratio_bottom : Option Addr} {sl_Ratio_bottom : Array (Option Value)}
    {oc_Ratio_bottom kV_Ratio_bottom dc_Ratio_bottom pm_Ratio_bottom cd_Ratio_bottom ct_Ratio_bottom : Value}
    {p_Ratio_bottom : Addr}
    {r_Ratio_bottom : List Value}
    {f_Ratio_top : Addr}
    {od_Ratio_top an_Ratio_top : Option Addr} {sl_Ratio_top : Array (Option Value)}
    {oc_Ratio_top kV_Ratio_top dc_Ratio_top pm_Ratio_top cd_Ratio_top ct_Ratio_top : Value}
    {p_Ratio_top : Addr}
    {r_Ratio_top : List Value}
    {f_digits_of : Addr}
    {od_digits_of an_digits_of : Option Addr} {sl_digits_of : Array (Option Value)}
    {oc_digits_of kV_digits_of dc_digits_of pm_digits_of cd_digits_of ct_digits_of : Value}
    {f_Ratio___repr__ : Addr}
    {od_Ratio___repr__ an_Ratio___repr__ : Option Addr} {sl_Ratio___repr__ : Array (Option Value)}
    {oc_Ratio___repr__ kV_Ratio___repr__ dc_Ratio___repr__ pm_Ratio___repr__ cd_Ratio___repr__ ct_Ratio___repr__ : Value}
    {f_Ratio_is_whole : Addr}
    {od_Ratio_is_whole an_Ratio_is_whole : Option Addr} {sl_Ratio_is_whole : Array (Option Value)}
    {oc_Ratio_is_whole kV_Ratio_is_whole dc_Ratio_is_whole pm_Ratio_is_whole cd_Ratio_is_whole ct_Ratio_is_whole : Value}
    {p_Ratio_is_whole : Addr}
    {r_Ratio_is_whole : List Value}
    {f_told_pair : Addr}
    {od_told_pair an_told_pair : Option Addr} {sl_told_pair : Array (Option Value)}
    {oc_told_pair kV_told_pair dc_told_pair pm_told_pair cd_told_pair ct_told_pair : Value}
    {f_Ratio___sub__ : Addr}
    {od_Ratio___sub__ an_Ratio___sub__ : Option Addr} {sl_Ratio___sub__ : Array (Option Value)}
    {oc_Ratio___sub__ kV_Ratio___sub__ dc_Ratio___sub__ pm_Ratio___sub__ cd_Ratio___sub__ ct_Ratio___sub__ : Value}
    {f_Ratio___rsub__ : Addr}
    {od_Ratio___rsub__ an_Ratio___rsub__ : Option Addr} {sl_Ratio___rsub__ : Array (Option Value)}
    {oc_Ratio___rsub__ kV_Ratio___rsub__ dc_Ratio___rsub__ pm_Ratio___rsub__ cd_Ratio___rsub__ ct_Ratio___rsub__ : Value}
    {f_Ratio_sign : Addr}
    {od_Ratio_sign an_Ratio_sign : Option Addr} {sl_Ratio_sign : Array (Option Value)}
    {oc_Ratio_sign kV_Ratio_sign dc_Ratio_sign pm_Ratio_sign cd_Ratio_sign ct_Ratio_sign : Value}
    {p_Ratio_sign : Addr}
    {r_Ratio_sign : List Value}
    {f_Ratio___add__ : Addr}
    {od_Ratio___add__ an_Ratio___add__ : Option Addr} {sl_Ratio___add__ : Array (Option Value)}
    {oc_Ratio___add__ kV_Ratio___add__ dc_Ratio___add__ pm_Ratio___add__ cd_Ratio___add__ ct_Ratio___add__ : Value}
    {f_Ratio___radd__ : Addr}
    {od_Ratio___radd__ an_Ratio___radd__ : Option Addr} {sl_Ratio___radd__ : Array (Option Value)}
    {oc_Ratio___radd__ kV_Ratio___radd__ dc_Ratio___radd__ pm_Ratio___radd__ cd_Ratio___radd__ ct_Ratio___radd__ : Value}
    {f_Ratio___str__ : Addr}
    {od_Ratio___str__ an_Ratio___str__ : Option Addr} {sl_Ratio___str__ : Array (Option Value)}
    {oc_Ratio___str__ kV_Ratio___str__ dc_Ratio___str__ pm_Ratio___str__ cd_Ratio___str__ ct_Ratio___str__ : Value}
    {f__law_common : Addr}
    {od__law_common an__law_common : Option Addr} {sl__law_common : Array (Option Value)}
    {oc__law_common kV__law_common dc__law_common pm__law_common cd__law_common ct__law_common : Value}
    {f_Ratio___mul__ : Addr}
    {od_Ratio___mul__ an_Ratio___mul__ : Option Addr} {sl_Ratio___mul__ : Array (Option Value)}
    {oc_Ratio___mul__ kV_Ratio___mul__ dc_Ratio___mul__ pm_Ratio___mul__ cd_Ratio___mul__ ct_Ratio___mul__ : Value}
    {f_Ratio___rmul__ : Addr}
    {od_Ratio___rmul__ an_Ratio___rmul__ : Option Addr} {sl_Ratio___rmul__ : Array (Option Value)}
    {oc_Ratio___rmul__ kV_Ratio___rmul__ dc_Ratio___rmul__ pm_Ratio___rmul__ cd_Ratio___rmul__ ct_Ratio___rmul__ : Value}
    {f__law_is : Addr}
    {od__law_is an__law_is : Option Addr} {sl__law_is : Array (Option Value)}
    {oc__law_is kV__law_is dc__law_is pm__law_is cd__law_is ct__law_is : Value}
    {f_total_of : Addr}
    {od_total_of an_total_of : Option Addr} {sl_total_of : Array (Option Value)}
    {oc_total_of kV_total_of dc_total_of pm_total_of cd_total_of ct_total_of : Value}
    {f_ratio_of : Addr}
    {od_ratio_of an_ratio_of : Option Addr} {sl_ratio_of : Array (Option Value)}
    {oc_ratio_of kV_ratio_of dc_ratio_of pm_ratio_of cd_ratio_of ct_ratio_of : Value}
    {f_is_number : Addr}
    {od_is_number an_is_number : Option Addr} {sl_is_number : Array (Option Value)}
    {oc_is_number kV_is_number dc_is_number pm_is_number cd_is_number ct_is_number : Value}
    {f_want_number : Addr}
    {od_want_number an_want_number : Option Addr} {sl_want_number : Array (Option Value)}
    {oc_want_number kV_want_number dc_want_number pm_want_number cd_want_number ct_want_number : Value}
    {f_is_list : Addr}
    {od_is_list an_is_list : Option Addr} {sl_is_list : Array (Option Value)}
    {oc_is_list kV_is_list dc_is_list pm_is_list cd_is_list ct_is_list : Value}
    {f_Ratio_total : Addr}
    {od_Ratio_total an_Ratio_total : Option Addr} {sl_Ratio_total : Array (Option Value)}
    {oc_Ratio_total kV_Ratio_total dc_Ratio_total pm_Ratio_total cd_Ratio_total ct_Ratio_total : Value}
    {p_Ratio_total : Addr}
    {r_Ratio_total : List Value}
    {f__law_draw : Addr}
    {od__law_draw an__law_draw : Option Addr} {sl__law_draw : Array (Option Value)}
    {oc__law_draw kV__law_draw dc__law_draw pm__law_draw cd__law_draw ct__law_draw : Value}
    {f__law_whole : Addr}
    {od__law_whole an__law_whole : Option Addr} {sl__law_whole : Array (Option Value)}
    {oc__law_whole kV__law_whole dc__law_whole pm__law_whole cd__law_whole ct__law_whole : Value}
    {f__law_pick : Addr}
    {od__law_pick an__law_pick : Option Addr} {sl__law_pick : Array (Option Value)}
    {oc__law_pick kV__law_pick dc__law_pick pm__law_pick cd__law_pick ct__law_pick : Value}
    {f__law_total_right : Addr}
    {od__law_total_right an__law_total_right : Option Addr} {sl__law_total_right : Array (Option Value)}
    {oc__law_total_right kV__law_total_right dc__law_total_right pm__law_total_right cd__law_total_right ct__law_total_right : Value}
    {f_Ratio_is_at_most : Addr}
    {od_Ratio_is_at_most an_Ratio_is_at_most : Option Addr} {sl_Ratio_is_at_most : Array (Option Value)}
    {oc_Ratio_is_at_most kV_Ratio_is_at_most dc_Ratio_is_at_most pm_Ratio_is_at_most cd_Ratio_is_at_most ct_Ratio_is_at_most : Value}
    {f_Ratio_is_below : Addr}
    {od_Ratio_is_below an_Ratio_is_below : Option Addr} {sl_Ratio_is_below : Array (Option Value)}
    {oc_Ratio_is_below kV_Ratio_is_below dc_Ratio_is_below pm_Ratio_is_below cd_Ratio_is_below ct_Ratio_is_below : Value}
    {f_Ratio_over : Addr}
    {od_Ratio_over an_Ratio_over : Option Addr} {sl_Ratio_over : Array (Option Value)}
    {oc_Ratio_over kV_Ratio_over dc_Ratio_over pm_Ratio_over cd_Ratio_over ct_Ratio_over : Value}
    {f__law_whole_right : Addr}
    {od__law_whole_right an__law_whole_right : Option Addr} {sl__law_whole_right : Array (Option Value)}
    {oc__law_whole_right kV__law_whole_right dc__law_whole_right pm__law_whole_right cd__law_whole_right ct__law_whole_right : Value}
    {f_Ratio___neg__ : Addr}
    {od_Ratio___neg__ an_Ratio___neg__ : Option Addr} {sl_Ratio___neg__ : Array (Option Value)}
    {oc_Ratio___neg__ kV_Ratio___neg__ dc_Ratio___neg__ pm_Ratio___neg__ cd_Ratio___neg__ ct_Ratio___neg__ : Value}
    {f__law_two_right : Addr}
    {od__law_two_right an__law_two_right : Option Addr} {sl__law_two_right : Array (Option Value)}
    {oc__law_two_right kV__law_two_right dc__law_two_right pm__law_two_right cd__law_two_right ct__law_two_right : Value}
    {f__law_top : Addr}
    {od__law_top an__law_top : Option Addr} {sl__law_top : Array (Option Value)}
    {oc__law_top kV__law_top dc__law_top pm__law_top cd__law_top ct__law_top : Value}
    {f__law_pair : Addr}
    {od__law_pair an__law_pair : Option Addr} {sl__law_pair : Array (Option Value)}
    {oc__law_pair kV__law_pair dc__law_pair pm__law_pair cd__law_pair ct__law_pair : Value}
    {f__law_pot : Addr}
    {od__law_pot an__law_pot : Option Addr} {sl__law_pot : Array (Option Value)}
    {oc__law_pot kV__law_pot dc__law_pot pm__law_pot cd__law_pot ct__law_pot : Value}
    {f_law : Addr}
    {od_law an_law : Option Addr} {sl_law : Array (Option Value)}
    {oc_law kV_law dc_law pm_law cd_law ct_law : Value}
    {fo_Ratio_add ro_Ratio_add : Option Value}
    {fo_Ratio_sub ro_Ratio_sub : Option Value}
    {fo_Ratio_mul ro_Ratio_mul : Option Value}
    {tk_PART : Tok}
    (aC_Ratio : PySem.W.nsIn K mainGlobals "Ratio" = some (some (.ref C_Ratio)))
    (pg_Ratio : PySem.W.plainGet K C_Ratio Str.empty = true)
    (hd_Ratio : PySem.W.hasDictIn K C_Ratio = true)
    (po_Ratio : PySem.W.plainOver K C_Ratio = true)
    (sa_Ratio : PySem.W.findIn K (.ref C_Ratio) "__setattr__" = some (some (.builtin "object.__setattr__")))
    (ca_Ratio : PySem.W.findIn K (.ref C_Ratio) "__class__" = some (some (.builtin "object.__class__")))
    (cm_Ratio : PySem.W.mroIn K C_Ratio (.type "object") = some true)
    (mk_Ratio : PySem.W.makesIn K C_Ratio = true)
    (kc_Ratio : PySem.W.keepIn K (.ref C_Ratio) = true)
    (na_Ratio_own_top : PySem.W.findIn K (.ref C_Ratio) "own_top" = some none)
    (na_Ratio_own_bottom : PySem.W.findIn K (.ref C_Ratio) "own_bottom" = some none)
    (cn0 : PySem.W.specialIn K (.builtin "object.__class__") "__get__" = some (some (.builtin "getset_descriptor.__get__")))
    (ct0 : PySem.W.takesIn K (.builtin "object.__class__") = some true)
    (a_Ratio___eq__ : PySem.W.findIn K (.ref C_Ratio) "__eq__" = some (some (.ref f_Ratio___eq__)))
    (i_Ratio___eq__ : PySem.W.isFn K (.ref f_Ratio___eq__) = true)
    (l_Ratio___eq__ : K.lookup f_Ratio___eq__ = some ⟨oc_Ratio___eq__, od_Ratio___eq__, .func (PySem.W.fnOf "__eq__" "Ratio.__eq__" (defArgs s_Ratio___eq__) (defBody s_Ratio___eq__) (defScope s_Ratio___eq__) .none kV_Ratio___eq__ dc_Ratio___eq__ pm_Ratio___eq__ an_Ratio___eq__ cd_Ratio___eq__ ct_Ratio___eq__), sl_Ratio___eq__⟩)
    (c_Ratio___eq__ : PySem.W.codeIn K cd_Ratio___eq__ "Ratio.__eq__" = true)
    (k_Ratio___eq__ : PySem.W.keepIn K (.ref f_Ratio___eq__) = true)
    (a_divisor_of : PySem.W.nsIn K mainGlobals "divisor_of" = some (some (.ref f_divisor_of)))
    (l_divisor_of : K.lookup f_divisor_of = some ⟨oc_divisor_of, od_divisor_of, .func (PySem.W.fnOf "divisor_of" "divisor_of" (defArgs s_divisor_of) (defBody s_divisor_of) (defScope s_divisor_of) .none kV_divisor_of dc_divisor_of pm_divisor_of an_divisor_of cd_divisor_of ct_divisor_of), sl_divisor_of⟩)
    (c_divisor_of : PySem.W.codeIn K cd_divisor_of "divisor_of" = true)
    (k_divisor_of : PySem.W.keepIn K (.ref f_divisor_of) = true)
    (a_is_integer : PySem.W.nsIn K mainGlobals "is_integer" = some (some (.ref f_is_integer)))
    (l_is_integer : K.lookup f_is_integer = some ⟨oc_is_integer, od_is_integer, .func (PySem.W.fnOf "is_integer" "is_integer" (defArgs s_is_integer) (defBody s_is_integer) (defScope s_is_integer) .none kV_is_integer dc_is_integer pm_is_integer an_is_integer cd_is_integer ct_is_integer), sl_is_integer⟩)
    (c_is_integer : PySem.W.codeIn K cd_is_integer "is_integer" = true)
    (k_is_integer : PySem.W.keepIn K (.ref f_is_integer) = true)
    (a_Ratio___init__ : PySem.W.findIn K (.ref C_Ratio) "__init__" = some (some (.ref f_Ratio___init__)))
    (i_Ratio___init__ : PySem.W.isFn K (.ref f_Ratio___init__) = true)
    (l_Ratio___init__ : K.lookup f_Ratio___init__ = some ⟨oc_Ratio___init__, od_Ratio___init__, .func (PySem.W.fnOf "__init__" "Ratio.__init__" (defArgs s_Ratio___init__) (defBody s_Ratio___init__) (defScope s_Ratio___init__) (.ref T_Ratio___init__) kV_Ratio___init__ dc_Ratio___init__ pm_Ratio___init__ an_Ratio___init__ cd_Ratio___init__ ct_Ratio___init__), sl_Ratio___init__⟩)
    (c_Ratio___init__ : PySem.W.codeIn K cd_Ratio___init__ "Ratio.__init__" = true)
    (k_Ratio___init__ : PySem.W.keepIn K (.ref f_Ratio___init__) = true)
    (d_Ratio___init__ : K.lookup T_Ratio___init__ = some ⟨tc_Ratio___init__, td_Ratio___init__, .seq #[.int 1 tt_Ratio___init___0] tn_Ratio___init__, ts_Ratio___init__⟩)
    (a_Ratio_size : PySem.W.findIn K (.ref C_Ratio) "size" = some (some (.ref f_Ratio_size)))
    (i_Ratio_size : PySem.W.isFn K (.ref f_Ratio_size) = true)
    (l_Ratio_size : K.lookup f_Ratio_size = some ⟨oc_Ratio_size, od_Ratio_size, .func (PySem.W.fnOf "size" "Ratio.size" (defArgs s_Ratio_size) (defBody s_Ratio_size) (defScope s_Ratio_size) .none kV_Ratio_size dc_Ratio_size pm_Ratio_size an_Ratio_size cd_Ratio_size ct_Ratio_size), sl_Ratio_size⟩)
    (c_Ratio_size : PySem.W.codeIn K cd_Ratio_size "Ratio.size" = true)
    (k_Ratio_size : PySem.W.keepIn K (.ref f_Ratio_size) = true)
    (a_Ratio_bottom : PySem.W.findIn K (.ref C_Ratio) "bottom" = some (some (.ref p_Ratio_bottom)))
    (g_Ratio_bottom : PySem.W.specialIn K (.ref p_Ratio_bottom) "__get__" = some (some (.builtin "property.__get__")))
    (t_Ratio_bottom : PySem.W.takesIn K (.ref p_Ratio_bottom) = some true)
    (r0_Ratio_bottom : PySem.W.recIn K p_Ratio_bottom "property" = some (.ref f_Ratio_bottom :: r_Ratio_bottom))
    (l_Ratio_bottom : K.lookup f_Ratio_bottom = some ⟨oc_Ratio_bottom, od_Ratio_bottom, .func (PySem.W.fnOf "bottom" "Ratio.bottom" (defArgs s_Ratio_bottom) (defBody s_Ratio_bottom) (defScope s_Ratio_bottom) .none kV_Ratio_bottom dc_Ratio_bottom pm_Ratio_bottom an_Ratio_bottom cd_Ratio_bottom ct_Ratio_bottom), sl_Ratio_bottom⟩)
    (c_Ratio_bottom : PySem.W.codeIn K cd_Ratio_bottom "Ratio.bottom" = true)
    (k_Ratio_bottom : PySem.W.keepIn K (.ref f_Ratio_bottom) = true)
    (a_Ratio_top : PySem.W.findIn K (.ref C_Ratio) "top" = some (some (.ref p_Ratio_top)))
    (g_Ratio_top : PySem.W.specialIn K (.ref p_Ratio_top) "__get__" = some (some (.builtin "property.__get__")))
    (t_Ratio_top : PySem.W.takesIn K (.ref p_Ratio_top) = some true)
    (r0_Ratio_top : PySem.W.recIn K p_Ratio_top "property" = some (.ref f_Ratio_top :: r_Ratio_top))
    (l_Ratio_top : K.lookup f_Ratio_top = some ⟨oc_Ratio_top, od_Ratio_top, .func (PySem.W.fnOf "top" "Ratio.top" (defArgs s_Ratio_top) (defBody s_Ratio_top) (defScope s_Ratio_top) .none kV_Ratio_top dc_Ratio_top pm_Ratio_top an_Ratio_top cd_Ratio_top ct_Ratio_top), sl_Ratio_top⟩)
    (c_Ratio_top : PySem.W.codeIn K cd_Ratio_top "Ratio.top" = true)
    (k_Ratio_top : PySem.W.keepIn K (.ref f_Ratio_top) = true)
    (a_digits_of : PySem.W.nsIn K mainGlobals "digits_of" = some (some (.ref f_digits_of)))
    (l_digits_of : K.lookup f_digits_of = some ⟨oc_digits_of, od_digits_of, .func (PySem.W.fnOf "digits_of" "digits_of" (defArgs s_digits_of) (defBody s_digits_of) (defScope s_digits_of) .none kV_digits_of dc_digits_of pm_digits_of an_digits_of cd_digits_of ct_digits_of), sl_digits_of⟩)
    (c_digits_of : PySem.W.codeIn K cd_digits_of "digits_of" = true)
    (k_digits_of : PySem.W.keepIn K (.ref f_digits_of) = true)
    (a_Ratio___repr__ : PySem.W.findIn K (.ref C_Ratio) "__repr__" = some (some (.ref f_Ratio___repr__)))
    (i_Ratio___repr__ : PySem.W.isFn K (.ref f_Ratio___repr__) = true)
    (l_Ratio___repr__ : K.lookup f_Ratio___repr__ = some ⟨oc_Ratio___repr__, od_Ratio___repr__, .func (PySem.W.fnOf "__repr__" "Ratio.__repr__" (defArgs s_Ratio___repr__) (defBody s_Ratio___repr__) (defScope s_Ratio___repr__) .none kV_Ratio___repr__ dc_Ratio___repr__ pm_Ratio___repr__ an_Ratio___repr__ cd_Ratio___repr__ ct_Ratio___repr__), sl_Ratio___repr__⟩)
    (c_Ratio___repr__ : PySem.W.codeIn K cd_Ratio___repr__ "Ratio.__repr__" = true)
    (k_Ratio___repr__ : PySem.W.keepIn K (.ref f_Ratio___repr__) = true)
    (a_Ratio_is_whole : PySem.W.findIn K (.ref C_Ratio) "is_whole" = some (some (.ref p_Ratio_is_whole)))
    (g_Ratio_is_whole : PySem.W.specialIn K (.ref p_Ratio_is_whole) "__get__" = some (some (.builtin "property.__get__")))
    (t_Ratio_is_whole : PySem.W.takesIn K (.ref p_Ratio_is_whole) = some true)
    (r0_Ratio_is_whole : PySem.W.recIn K p_Ratio_is_whole "property" = some (.ref f_Ratio_is_whole :: r_Ratio_is_whole))
    (l_Ratio_is_whole : K.lookup f_Ratio_is_whole = some ⟨oc_Ratio_is_whole, od_Ratio_is_whole, .func (PySem.W.fnOf "is_whole" "Ratio.is_whole" (defArgs s_Ratio_is_whole) (defBody s_Ratio_is_whole) (defScope s_Ratio_is_whole) .none kV_Ratio_is_whole dc_Ratio_is_whole pm_Ratio_is_whole an_Ratio_is_whole cd_Ratio_is_whole ct_Ratio_is_whole), sl_Ratio_is_whole⟩)
    (c_Ratio_is_whole : PySem.W.codeIn K cd_Ratio_is_whole "Ratio.is_whole" = true)
    (k_Ratio_is_whole : PySem.W.keepIn K (.ref f_Ratio_is_whole) = true)
    (a_told_pair : PySem.W.nsIn K mainGlobals "told_pair" = some (some (.ref f_told_pair)))
    (l_told_pair : K.lookup f_told_pair = some ⟨oc_told_pair, od_told_pair, .func (PySem.W.fnOf "told_pair" "told_pair" (defArgs s_told_pair) (defBody s_told_pair) (defScope s_told_pair) .none kV_told_pair dc_told_pair pm_told_pair an_told_pair cd_told_pair ct_told_pair), sl_told_pair⟩)
    (c_told_pair : PySem.W.codeIn K cd_told_pair "told_pair" = true)
    (k_told_pair : PySem.W.keepIn K (.ref f_told_pair) = true)
    (a_Ratio___sub__ : PySem.W.findIn K (.ref C_Ratio) "__sub__" = some (some (.ref f_Ratio___sub__)))
    (i_Ratio___sub__ : PySem.W.isFn K (.ref f_Ratio___sub__) = true)
    (l_Ratio___sub__ : K.lookup f_Ratio___sub__ = some ⟨oc_Ratio___sub__, od_Ratio___sub__, .func (PySem.W.fnOf "__sub__" "Ratio.__sub__" (defArgs s_Ratio___sub__) (defBody s_Ratio___sub__) (defScope s_Ratio___sub__) .none kV_Ratio___sub__ dc_Ratio___sub__ pm_Ratio___sub__ an_Ratio___sub__ cd_Ratio___sub__ ct_Ratio___sub__), sl_Ratio___sub__⟩)
    (c_Ratio___sub__ : PySem.W.codeIn K cd_Ratio___sub__ "Ratio.__sub__" = true)
    (k_Ratio___sub__ : PySem.W.keepIn K (.ref f_Ratio___sub__) = true)
    (a_Ratio___rsub__ : PySem.W.findIn K (.ref C_Ratio) "__rsub__" = some (some (.ref f_Ratio___rsub__)))
    (i_Ratio___rsub__ : PySem.W.isFn K (.ref f_Ratio___rsub__) = true)
    (l_Ratio___rsub__ : K.lookup f_Ratio___rsub__ = some ⟨oc_Ratio___rsub__, od_Ratio___rsub__, .func (PySem.W.fnOf "__rsub__" "Ratio.__rsub__" (defArgs s_Ratio___rsub__) (defBody s_Ratio___rsub__) (defScope s_Ratio___rsub__) .none kV_Ratio___rsub__ dc_Ratio___rsub__ pm_Ratio___rsub__ an_Ratio___rsub__ cd_Ratio___rsub__ ct_Ratio___rsub__), sl_Ratio___rsub__⟩)
    (c_Ratio___rsub__ : PySem.W.codeIn K cd_Ratio___rsub__ "Ratio.__rsub__" = true)
    (k_Ratio___rsub__ : PySem.W.keepIn K (.ref f_Ratio___rsub__) = true)
    (a_Ratio_sign : PySem.W.findIn K (.ref C_Ratio) "sign" = some (some (.ref p_Ratio_sign)))
    (g_Ratio_sign : PySem.W.specialIn K (.ref p_Ratio_sign) "__get__" = some (some (.builtin "property.__get__")))
    (t_Ratio_sign : PySem.W.takesIn K (.ref p_Ratio_sign) = some true)
    (r0_Ratio_sign : PySem.W.recIn K p_Ratio_sign "property" = some (.ref f_Ratio_sign :: r_Ratio_sign))
    (l_Ratio_sign : K.lookup f_Ratio_sign = some ⟨oc_Ratio_sign, od_Ratio_sign, .func (PySem.W.fnOf "sign" "Ratio.sign" (defArgs s_Ratio_sign) (defBody s_Ratio_sign) (defScope s_Ratio_sign) .none kV_Ratio_sign dc_Ratio_sign pm_Ratio_sign an_Ratio_sign cd_Ratio_sign ct_Ratio_sign), sl_Ratio_sign⟩)
    (c_Ratio_sign : PySem.W.codeIn K cd_Ratio_sign "Ratio.sign" = true)
    (k_Ratio_sign : PySem.W.keepIn K (.ref f_Ratio_sign) = true)
    (a_Ratio___add__ : PySem.W.findIn K (.ref C_Ratio) "__add__" = some (some (.ref f_Ratio___add__)))
    (i_Ratio___add__ : PySem.W.isFn K (.ref f_Ratio___add__) = true)
    (l_Ratio___add__ : K.lookup f_Ratio___add__ = some ⟨oc_Ratio___add__, od_Ratio___add__, .func (PySem.W.fnOf "__add__" "Ratio.__add__" (defArgs s_Ratio___add__) (defBody s_Ratio___add__) (defScope s_Ratio___add__) .none kV_Ratio___add__ dc_Ratio___add__ pm_Ratio___add__ an_Ratio___add__ cd_Ratio___add__ ct_Ratio___add__), sl_Ratio___add__⟩)
    (c_Ratio___add__ : PySem.W.codeIn K cd_Ratio___add__ "Ratio.__add__" = true)
    (k_Ratio___add__ : PySem.W.keepIn K (.ref f_Ratio___add__) = true)
    (a_Ratio___radd__ : PySem.W.findIn K (.ref C_Ratio) "__radd__" = some (some (.ref f_Ratio___radd__)))
    (i_Ratio___radd__ : PySem.W.isFn K (.ref f_Ratio___radd__) = true)
    (l_Ratio___radd__ : K.lookup f_Ratio___radd__ = some ⟨oc_Ratio___radd__, od_Ratio___radd__, .func (PySem.W.fnOf "__radd__" "Ratio.__radd__" (defArgs s_Ratio___radd__) (defBody s_Ratio___radd__) (defScope s_Ratio___radd__) .none kV_Ratio___radd__ dc_Ratio___radd__ pm_Ratio___radd__ an_Ratio___radd__ cd_Ratio___radd__ ct_Ratio___radd__), sl_Ratio___radd__⟩)
    (c_Ratio___radd__ : PySem.W.codeIn K cd_Ratio___radd__ "Ratio.__radd__" = true)
    (k_Ratio___radd__ : PySem.W.keepIn K (.ref f_Ratio___radd__) = true)
    (a_Ratio___str__ : PySem.W.findIn K (.ref C_Ratio) "__str__" = some (some (.ref f_Ratio___str__)))
    (i_Ratio___str__ : PySem.W.isFn K (.ref f_Ratio___str__) = true)
    (l_Ratio___str__ : K.lookup f_Ratio___str__ = some ⟨oc_Ratio___str__, od_Ratio___str__, .func (PySem.W.fnOf "__str__" "Ratio.__str__" (defArgs s_Ratio___str__) (defBody s_Ratio___str__) (defScope s_Ratio___str__) .none kV_Ratio___str__ dc_Ratio___str__ pm_Ratio___str__ an_Ratio___str__ cd_Ratio___str__ ct_Ratio___str__), sl_Ratio___str__⟩)
    (c_Ratio___str__ : PySem.W.codeIn K cd_Ratio___str__ "Ratio.__str__" = true)
    (k_Ratio___str__ : PySem.W.keepIn K (.ref f_Ratio___str__) = true)
    (a__law_common : PySem.W.nsIn K mainGlobals "_law_common" = some (some (.ref f__law_common)))
    (l__law_common : K.lookup f__law_common = some ⟨oc__law_common, od__law_common, .func (PySem.W.fnOf "_law_common" "_law_common" (defArgs s__law_common) (defBody s__law_common) (defScope s__law_common) .none kV__law_common dc__law_common pm__law_common an__law_common cd__law_common ct__law_common), sl__law_common⟩)
    (c__law_common : PySem.W.codeIn K cd__law_common "_law_common" = true)
    (k__law_common : PySem.W.keepIn K (.ref f__law_common) = true)
    (a_Ratio___mul__ : PySem.W.findIn K (.ref C_Ratio) "__mul__" = some (some (.ref f_Ratio___mul__)))
    (i_Ratio___mul__ : PySem.W.isFn K (.ref f_Ratio___mul__) = true)
    (l_Ratio___mul__ : K.lookup f_Ratio___mul__ = some ⟨oc_Ratio___mul__, od_Ratio___mul__, .func (PySem.W.fnOf "__mul__" "Ratio.__mul__" (defArgs s_Ratio___mul__) (defBody s_Ratio___mul__) (defScope s_Ratio___mul__) .none kV_Ratio___mul__ dc_Ratio___mul__ pm_Ratio___mul__ an_Ratio___mul__ cd_Ratio___mul__ ct_Ratio___mul__), sl_Ratio___mul__⟩)
    (c_Ratio___mul__ : PySem.W.codeIn K cd_Ratio___mul__ "Ratio.__mul__" = true)
    (k_Ratio___mul__ : PySem.W.keepIn K (.ref f_Ratio___mul__) = true)
    (a_Ratio___rmul__ : PySem.W.findIn K (.ref C_Ratio) "__rmul__" = some (some (.ref f_Ratio___rmul__)))
    (i_Ratio___rmul__ : PySem.W.isFn K (.ref f_Ratio___rmul__) = true)
    (l_Ratio___rmul__ : K.lookup f_Ratio___rmul__ = some ⟨oc_Ratio___rmul__, od_Ratio___rmul__, .func (PySem.W.fnOf "__rmul__" "Ratio.__rmul__" (defArgs s_Ratio___rmul__) (defBody s_Ratio___rmul__) (defScope s_Ratio___rmul__) .none kV_Ratio___rmul__ dc_Ratio___rmul__ pm_Ratio___rmul__ an_Ratio___rmul__ cd_Ratio___rmul__ ct_Ratio___rmul__), sl_Ratio___rmul__⟩)
    (c_Ratio___rmul__ : PySem.W.codeIn K cd_Ratio___rmul__ "Ratio.__rmul__" = true)
    (k_Ratio___rmul__ : PySem.W.keepIn K (.ref f_Ratio___rmul__) = true)
    (a__law_is : PySem.W.nsIn K mainGlobals "_law_is" = some (some (.ref f__law_is)))
    (l__law_is : K.lookup f__law_is = some ⟨oc__law_is, od__law_is, .func (PySem.W.fnOf "_law_is" "_law_is" (defArgs s__law_is) (defBody s__law_is) (defScope s__law_is) .none kV__law_is dc__law_is pm__law_is an__law_is cd__law_is ct__law_is), sl__law_is⟩)
    (c__law_is : PySem.W.codeIn K cd__law_is "_law_is" = true)
    (k__law_is : PySem.W.keepIn K (.ref f__law_is) = true)
    (a_total_of : PySem.W.nsIn K mainGlobals "total_of" = some (some (.ref f_total_of)))
    (l_total_of : K.lookup f_total_of = some ⟨oc_total_of, od_total_of, .func (PySem.W.fnOf "total_of" "total_of" (defArgs s_total_of) (defBody s_total_of) (defScope s_total_of) .none kV_total_of dc_total_of pm_total_of an_total_of cd_total_of ct_total_of), sl_total_of⟩)
    (c_total_of : PySem.W.codeIn K cd_total_of "total_of" = true)
    (k_total_of : PySem.W.keepIn K (.ref f_total_of) = true)
    (a_ratio_of : PySem.W.nsIn K mainGlobals "ratio_of" = some (some (.ref f_ratio_of)))
    (l_ratio_of : K.lookup f_ratio_of = some ⟨oc_ratio_of, od_ratio_of, .func (PySem.W.fnOf "ratio_of" "ratio_of" (defArgs s_ratio_of) (defBody s_ratio_of) (defScope s_ratio_of) .none kV_ratio_of dc_ratio_of pm_ratio_of an_ratio_of cd_ratio_of ct_ratio_of), sl_ratio_of⟩)
    (c_ratio_of : PySem.W.codeIn K cd_ratio_of "ratio_of" = true)
    (k_ratio_of : PySem.W.keepIn K (.ref f_ratio_of) = true)
    (a_is_number : PySem.W.nsIn K mainGlobals "is_number" = some (some (.ref f_is_number)))
    (l_is_number : K.lookup f_is_number = some ⟨oc_is_number, od_is_number, .func (PySem.W.fnOf "is_number" "is_number" (defArgs s_is_number) (defBody s_is_number) (defScope s_is_number) .none kV_is_number dc_is_number pm_is_number an_is_number cd_is_number ct_is_number), sl_is_number⟩)
    (c_is_number : PySem.W.codeIn K cd_is_number "is_number" = true)
    (k_is_number : PySem.W.keepIn K (.ref f_is_number) = true)
    (a_want_number : PySem.W.nsIn K mainGlobals "want_number" = some (some (.ref f_want_number)))
    (l_want_number : K.lookup f_want_number = some ⟨oc_want_number, od_want_number, .func (PySem.W.fnOf "want_number" "want_number" (defArgs s_want_number) (defBody s_want_number) (defScope s_want_number) .none kV_want_number dc_want_number pm_want_number an_want_number cd_want_number ct_want_number), sl_want_number⟩)
    (c_want_number : PySem.W.codeIn K cd_want_number "want_number" = true)
    (k_want_number : PySem.W.keepIn K (.ref f_want_number) = true)
    (a_is_list : PySem.W.nsIn K mainGlobals "is_list" = some (some (.ref f_is_list)))
    (l_is_list : K.lookup f_is_list = some ⟨oc_is_list, od_is_list, .func (PySem.W.fnOf "is_list" "is_list" (defArgs s_is_list) (defBody s_is_list) (defScope s_is_list) .none kV_is_list dc_is_list pm_is_list an_is_list cd_is_list ct_is_list), sl_is_list⟩)
    (c_is_list : PySem.W.codeIn K cd_is_list "is_list" = true)
    (k_is_list : PySem.W.keepIn K (.ref f_is_list) = true)
    (a_Ratio_total : PySem.W.findCls K (.ref C_Ratio) (.type "type") "total" = some (.get (.builtin "classmethod.__get__") (.ref p_Ratio_total) .none (.ref C_Ratio)))
    (r0_Ratio_total : PySem.W.recIn K p_Ratio_total "classmethod" = some (.ref f_Ratio_total :: r_Ratio_total))
    (n_Ratio_total : PySem.W.fnIn K f_Ratio_total = true)
    (rd_Ratio : PySem.W.readsIn K C_Ratio (.type "type") = true)
    (ga_Ratio : PySem.W.specialIn K (.ref C_Ratio) "__getattribute__" = some (some (.builtin "type.__getattribute__")))
    (l_Ratio_total : K.lookup f_Ratio_total = some ⟨oc_Ratio_total, od_Ratio_total, .func (PySem.W.fnOf "total" "Ratio.total" (defArgs s_Ratio_total) (defBody s_Ratio_total) (defScope s_Ratio_total) .none kV_Ratio_total dc_Ratio_total pm_Ratio_total an_Ratio_total cd_Ratio_total ct_Ratio_total), sl_Ratio_total⟩)
    (c_Ratio_total : PySem.W.codeIn K cd_Ratio_total "Ratio.total" = true)
    (k_Ratio_total : PySem.W.keepIn K (.ref f_Ratio_total) = true)
    (a__law_draw : PySem.W.nsIn K mainGlobals "_law_draw" = some (some (.ref f__law_draw)))
    (l__law_draw : K.lookup f__law_draw = some ⟨oc__law_draw, od__law_draw, .func (PySem.W.fnOf "_law_draw" "_law_draw" (defArgs s__law_draw) (defBody s__law_draw) (defScope s__law_draw) .none kV__law_draw dc__law_draw pm__law_draw an__law_draw cd__law_draw ct__law_draw), sl__law_draw⟩)
    (c__law_draw : PySem.W.codeIn K cd__law_draw "_law_draw" = true)
    (k__law_draw : PySem.W.keepIn K (.ref f__law_draw) = true)
    (a__law_whole : PySem.W.nsIn K mainGlobals "_law_whole" = some (some (.ref f__law_whole)))
    (l__law_whole : K.lookup f__law_whole = some ⟨oc__law_whole, od__law_whole, .func (PySem.W.fnOf "_law_whole" "_law_whole" (defArgs s__law_whole) (defBody s__law_whole) (defScope s__law_whole) .none kV__law_whole dc__law_whole pm__law_whole an__law_whole cd__law_whole ct__law_whole), sl__law_whole⟩)
    (c__law_whole : PySem.W.codeIn K cd__law_whole "_law_whole" = true)
    (k__law_whole : PySem.W.keepIn K (.ref f__law_whole) = true)
    (a__law_pick : PySem.W.nsIn K mainGlobals "_law_pick" = some (some (.ref f__law_pick)))
    (l__law_pick : K.lookup f__law_pick = some ⟨oc__law_pick, od__law_pick, .func (PySem.W.fnOf "_law_pick" "_law_pick" (defArgs s__law_pick) (defBody s__law_pick) (defScope s__law_pick) .none kV__law_pick dc__law_pick pm__law_pick an__law_pick cd__law_pick ct__law_pick), sl__law_pick⟩)
    (c__law_pick : PySem.W.codeIn K cd__law_pick "_law_pick" = true)
    (k__law_pick : PySem.W.keepIn K (.ref f__law_pick) = true)
    (a__law_total_right : PySem.W.nsIn K mainGlobals "_law_total_right" = some (some (.ref f__law_total_right)))
    (l__law_total_right : K.lookup f__law_total_right = some ⟨oc__law_total_right, od__law_total_right, .func (PySem.W.fnOf "_law_total_right" "_law_total_right" (defArgs s__law_total_right) (defBody s__law_total_right) (defScope s__law_total_right) .none kV__law_total_right dc__law_total_right pm__law_total_right an__law_total_right cd__law_total_right ct__law_total_right), sl__law_total_right⟩)
    (c__law_total_right : PySem.W.codeIn K cd__law_total_right "_law_total_right" = true)
    (k__law_total_right : PySem.W.keepIn K (.ref f__law_total_right) = true)
    (a_Ratio_is_at_most : PySem.W.findIn K (.ref C_Ratio) "is_at_most" = some (some (.ref f_Ratio_is_at_most)))
    (i_Ratio_is_at_most : PySem.W.isFn K (.ref f_Ratio_is_at_most) = true)
    (l_Ratio_is_at_most : K.lookup f_Ratio_is_at_most = some ⟨oc_Ratio_is_at_most, od_Ratio_is_at_most, .func (PySem.W.fnOf "is_at_most" "Ratio.is_at_most" (defArgs s_Ratio_is_at_most) (defBody s_Ratio_is_at_most) (defScope s_Ratio_is_at_most) .none kV_Ratio_is_at_most dc_Ratio_is_at_most pm_Ratio_is_at_most an_Ratio_is_at_most cd_Ratio_is_at_most ct_Ratio_is_at_most), sl_Ratio_is_at_most⟩)
    (c_Ratio_is_at_most : PySem.W.codeIn K cd_Ratio_is_at_most "Ratio.is_at_most" = true)
    (k_Ratio_is_at_most : PySem.W.keepIn K (.ref f_Ratio_is_at_most) = true)
    (a_Ratio_is_below : PySem.W.findIn K (.ref C_Ratio) "is_below" = some (some (.ref f_Ratio_is_below)))
    (i_Ratio_is_below : PySem.W.isFn K (.ref f_Ratio_is_below) = true)
    (l_Ratio_is_below : K.lookup f_Ratio_is_below = some ⟨oc_Ratio_is_below, od_Ratio_is_below, .func (PySem.W.fnOf "is_below" "Ratio.is_below" (defArgs s_Ratio_is_below) (defBody s_Ratio_is_below) (defScope s_Ratio_is_below) .none kV_Ratio_is_below dc_Ratio_is_below pm_Ratio_is_below an_Ratio_is_below cd_Ratio_is_below ct_Ratio_is_below), sl_Ratio_is_below⟩)
    (c_Ratio_is_below : PySem.W.codeIn K cd_Ratio_is_below "Ratio.is_below" = true)
    (k_Ratio_is_below : PySem.W.keepIn K (.ref f_Ratio_is_below) = true)
    (a_Ratio_over : PySem.W.findIn K (.ref C_Ratio) "over" = some (some (.ref f_Ratio_over)))
    (i_Ratio_over : PySem.W.isFn K (.ref f_Ratio_over) = true)
    (l_Ratio_over : K.lookup f_Ratio_over = some ⟨oc_Ratio_over, od_Ratio_over, .func (PySem.W.fnOf "over" "Ratio.over" (defArgs s_Ratio_over) (defBody s_Ratio_over) (defScope s_Ratio_over) .none kV_Ratio_over dc_Ratio_over pm_Ratio_over an_Ratio_over cd_Ratio_over ct_Ratio_over), sl_Ratio_over⟩)
    (c_Ratio_over : PySem.W.codeIn K cd_Ratio_over "Ratio.over" = true)
    (k_Ratio_over : PySem.W.keepIn K (.ref f_Ratio_over) = true)
    (a__law_whole_right : PySem.W.nsIn K mainGlobals "_law_whole_right" = some (some (.ref f__law_whole_right)))
    (l__law_whole_right : K.lookup f__law_whole_right = some ⟨oc__law_whole_right, od__law_whole_right, .func (PySem.W.fnOf "_law_whole_right" "_law_whole_right" (defArgs s__law_whole_right) (defBody s__law_whole_right) (defScope s__law_whole_right) .none kV__law_whole_right dc__law_whole_right pm__law_whole_right an__law_whole_right cd__law_whole_right ct__law_whole_right), sl__law_whole_right⟩)
    (c__law_whole_right : PySem.W.codeIn K cd__law_whole_right "_law_whole_right" = true)
    (k__law_whole_right : PySem.W.keepIn K (.ref f__law_whole_right) = true)
    (a_Ratio___neg__ : PySem.W.findIn K (.ref C_Ratio) "__neg__" = some (some (.ref f_Ratio___neg__)))
    (i_Ratio___neg__ : PySem.W.isFn K (.ref f_Ratio___neg__) = true)
    (l_Ratio___neg__ : K.lookup f_Ratio___neg__ = some ⟨oc_Ratio___neg__, od_Ratio___neg__, .func (PySem.W.fnOf "__neg__" "Ratio.__neg__" (defArgs s_Ratio___neg__) (defBody s_Ratio___neg__) (defScope s_Ratio___neg__) .none kV_Ratio___neg__ dc_Ratio___neg__ pm_Ratio___neg__ an_Ratio___neg__ cd_Ratio___neg__ ct_Ratio___neg__), sl_Ratio___neg__⟩)
    (c_Ratio___neg__ : PySem.W.codeIn K cd_Ratio___neg__ "Ratio.__neg__" = true)
    (k_Ratio___neg__ : PySem.W.keepIn K (.ref f_Ratio___neg__) = true)
    (a__law_two_right : PySem.W.nsIn K mainGlobals "_law_two_right" = some (some (.ref f__law_two_right)))
    (l__law_two_right : K.lookup f__law_two_right = some ⟨oc__law_two_right, od__law_two_right, .func (PySem.W.fnOf "_law_two_right" "_law_two_right" (defArgs s__law_two_right) (defBody s__law_two_right) (defScope s__law_two_right) .none kV__law_two_right dc__law_two_right pm__law_two_right an__law_two_right cd__law_two_right ct__law_two_right), sl__law_two_right⟩)
    (c__law_two_right : PySem.W.codeIn K cd__law_two_right "_law_two_right" = true)
    (k__law_two_right : PySem.W.keepIn K (.ref f__law_two_right) = true)
    (a__law_top : PySem.W.nsIn K mainGlobals "_law_top" = some (some (.ref f__law_top)))
    (l__law_top : K.lookup f__law_top = some ⟨oc__law_top, od__law_top, .func (PySem.W.fnOf "_law_top" "_law_top" (defArgs s__law_top) (defBody s__law_top) (defScope s__law_top) .none kV__law_top dc__law_top pm__law_top an__law_top cd__law_top ct__law_top), sl__law_top⟩)
    (c__law_top : PySem.W.codeIn K cd__law_top "_law_top" = true)
    (k__law_top : PySem.W.keepIn K (.ref f__law_top) = true)
    (a__law_pair : PySem.W.nsIn K mainGlobals "_law_pair" = some (some (.ref f__law_pair)))
    (l__law_pair : K.lookup f__law_pair = some ⟨oc__law_pair, od__law_pair, .func (PySem.W.fnOf "_law_pair" "_law_pair" (defArgs s__law_pair) (defBody s__law_pair) (defScope s__law_pair) .none kV__law_pair dc__law_pair pm__law_pair an__law_pair cd__law_pair ct__law_pair), sl__law_pair⟩)
    (c__law_pair : PySem.W.codeIn K cd__law_pair "_law_pair" = true)
    (k__law_pair : PySem.W.keepIn K (.ref f__law_pair) = true)
    (a__law_pot : PySem.W.nsIn K mainGlobals "_law_pot" = some (some (.ref f__law_pot)))
    (l__law_pot : K.lookup f__law_pot = some ⟨oc__law_pot, od__law_pot, .func (PySem.W.fnOf "_law_pot" "_law_pot" (defArgs s__law_pot) (defBody s__law_pot) (defScope s__law_pot) .none kV__law_pot dc__law_pot pm__law_pot an__law_pot cd__law_pot ct__law_pot), sl__law_pot⟩)
    (c__law_pot : PySem.W.codeIn K cd__law_pot "_law_pot" = true)
    (k__law_pot : PySem.W.keepIn K (.ref f__law_pot) = true)
    (a_law : PySem.W.nsIn K mainGlobals "law" = some (some (.ref f_law)))
    (l_law : K.lookup f_law = some ⟨oc_law, od_law, .func (PySem.W.fnOf "law" "law" (defArgs s_law) (defBody s_law) (defScope s_law) .none kV_law dc_law pm_law an_law cd_law ct_law), sl_law⟩)
    (c_law : PySem.W.codeIn K cd_law "law" = true)
    (k_law : PySem.W.keepIn K (.ref f_law) = true)
    (sf_Ratio : PySem.W.selfFirst K C_Ratio = true)
    (it_Ratio_add : PySem.W.findIn K (.type "int") "__add__" = some fo_Ratio_add)
    (ir_Ratio_add : PySem.W.findIn K (.type "int") "__radd__" = some ro_Ratio_add)
    (si_Ratio : PySem.W.subIn K (.type "int") (.ref C_Ratio) = some false)
    (is_Ratio : PySem.W.subIn K (.ref C_Ratio) (.type "int") = some false)
    (it_Ratio_sub : PySem.W.findIn K (.type "int") "__sub__" = some fo_Ratio_sub)
    (ir_Ratio_sub : PySem.W.findIn K (.type "int") "__rsub__" = some ro_Ratio_sub)
    (it_Ratio_mul : PySem.W.findIn K (.type "int") "__mul__" = some fo_Ratio_mul)
    (ir_Ratio_mul : PySem.W.findIn K (.type "int") "__rmul__" = some ro_Ratio_mul)
    (ne_Ratio : PySem.W.findIn K (.ref C_Ratio) "__ne__" = some (some (.builtin "object.__ne__")))
    (ob_Ratio : PySem.W.subIn K (.ref C_Ratio) (.type "object") = some true)
    (sbool_Ratio : PySem.W.subIn K (.type "bool") (.ref C_Ratio) = some false)
    (sstr_Ratio : PySem.W.subIn K (.type "str") (.ref C_Ratio) = some false)
    (sNoneType_Ratio : PySem.W.subIn K (.type "NoneType") (.ref C_Ratio) = some false)
    (z_isinstance : PySem.W.nsIn K mainGlobals "isinstance" = some none)
    (z_bool : PySem.W.nsIn K mainGlobals "bool" = some none)
    (z_int : PySem.W.nsIn K mainGlobals "int" = some none)
    (z_abs : PySem.W.nsIn K mainGlobals "abs" = some none)
    (z_PART : PySem.W.nsIn K mainGlobals "PART" = some (some (.int 1000000000000000000000000000000000000000000000000000000000000 tk_PART)))
    (z_str : PySem.W.nsIn K mainGlobals "str" = some none)
    (z_repr : PySem.W.nsIn K mainGlobals "repr" = some none)
    (z_list : PySem.W.nsIn K mainGlobals "list" = some none)
    (z_tuple : PySem.W.nsIn K mainGlobals "tuple" = some none)
    (z_divmod : PySem.W.nsIn K mainGlobals "divmod" = some none)
    (z_len : PySem.W.nsIn K mainGlobals "len" = some none)
    (z_range : PySem.W.nsIn K mainGlobals "range" = some none)
    (z_max : PySem.W.nsIn K mainGlobals "max" = some none)
    (z_all : PySem.W.nsIn K mainGlobals "all" = some none)
    (z_gcd : PySem.W.nsIn K mainGlobals "gcd" = some (some (.builtin "math.gcd")))
    (ic_Ratio : PySem.W.isClsIn K C_Ratio = true)
    (ty_Ratio : PySem.W.typeIn K (.ref C_Ratio) = some (.type "type"))
    (su_NoneType_Ratio : PySem.W.subIn K (.type "NoneType") (.ref C_Ratio) = some false)
    (su_bool_Ratio : PySem.W.subIn K (.type "bool") (.ref C_Ratio) = some false)
    (su_int_Ratio : PySem.W.subIn K (.type "int") (.ref C_Ratio) = some false)
    (su_str_Ratio : PySem.W.subIn K (.type "str") (.ref C_Ratio) = some false)
    (su_tuple_Ratio : PySem.W.subIn K (.type "tuple") (.ref C_Ratio) = some false)
    (su_list_Ratio : PySem.W.subIn K (.type "list") (.ref C_Ratio) = some false)
    (su_Ratio_bool : PySem.W.subIn K (.ref C_Ratio) (.type "bool") = some false)
    (su_Ratio_int : PySem.W.subIn K (.ref C_Ratio) (.type "int") = some false)
    (su_Ratio_list : PySem.W.subIn K (.ref C_Ratio) (.type "list") = some false)
    (su_Ratio_tuple : PySem.W.subIn K (.ref C_Ratio) (.type "tuple") = some false)
    : PF K mg {
      C_Ratio := C_Ratio,
      f_Ratio___eq__ := f_Ratio___eq__,
      fd_Ratio___eq__ := PySem.W.fnOf "__eq__" "Ratio.__eq__" (defArgs s_Ratio___eq__) (defBody s_Ratio___eq__) (defScope s_Ratio___eq__) .none kV_Ratio___eq__ dc_Ratio___eq__ pm_Ratio___eq__ an_Ratio___eq__ cd_Ratio___eq__ ct_Ratio___eq__,
      f_divisor_of := f_divisor_of,
      fd_divisor_of := PySem.W.fnOf "divisor_of" "divisor_of" (defArgs s_divisor_of) (defBody s_divisor_of) (defScope s_divisor_of) .none kV_divisor_of dc_divisor_of pm_divisor_of an_divisor_of cd_divisor_of ct_divisor_of,
      f_is_integer := f_is_integer,
      fd_is_integer := PySem.W.fnOf "is_integer" "is_integer" (defArgs s_is_integer) (defBody s_is_integer) (defScope s_is_integer) .none kV_is_integer dc_is_integer pm_is_integer an_is_integer cd_is_integer ct_is_integer,
      f_Ratio___init__ := f_Ratio___init__,
      fd_Ratio___init__ := PySem.W.fnOf "__init__" "Ratio.__init__" (defArgs s_Ratio___init__) (defBody s_Ratio___init__) (defScope s_Ratio___init__) (.ref T_Ratio___init__) kV_Ratio___init__ dc_Ratio___init__ pm_Ratio___init__ an_Ratio___init__ cd_Ratio___init__ ct_Ratio___init__,
      f_Ratio_size := f_Ratio_size,
      fd_Ratio_size := PySem.W.fnOf "size" "Ratio.size" (defArgs s_Ratio_size) (defBody s_Ratio_size) (defScope s_Ratio_size) .none kV_Ratio_size dc_Ratio_size pm_Ratio_size an_Ratio_size cd_Ratio_size ct_Ratio_size,
      f_Ratio_bottom := f_Ratio_bottom,
      fd_Ratio_bottom := PySem.W.fnOf "bottom" "Ratio.bottom" (defArgs s_Ratio_bottom) (defBody s_Ratio_bottom) (defScope s_Ratio_bottom) .none kV_Ratio_bottom dc_Ratio_bottom pm_Ratio_bottom an_Ratio_bottom cd_Ratio_bottom ct_Ratio_bottom,
      p_Ratio_bottom := p_Ratio_bottom,
      f_Ratio_top := f_Ratio_top,
      fd_Ratio_top := PySem.W.fnOf "top" "Ratio.top" (defArgs s_Ratio_top) (defBody s_Ratio_top) (defScope s_Ratio_top) .none kV_Ratio_top dc_Ratio_top pm_Ratio_top an_Ratio_top cd_Ratio_top ct_Ratio_top,
      p_Ratio_top := p_Ratio_top,
      f_digits_of := f_digits_of,
      fd_digits_of := PySem.W.fnOf "digits_of" "digits_of" (defArgs s_digits_of) (defBody s_digits_of) (defScope s_digits_of) .none kV_digits_of dc_digits_of pm_digits_of an_digits_of cd_digits_of ct_digits_of,
      f_Ratio___repr__ := f_Ratio___repr__,
      fd_Ratio___repr__ := PySem.W.fnOf "__repr__" "Ratio.__repr__" (defArgs s_Ratio___repr__) (defBody s_Ratio___repr__) (defScope s_Ratio___repr__) .none kV_Ratio___repr__ dc_Ratio___repr__ pm_Ratio___repr__ an_Ratio___repr__ cd_Ratio___repr__ ct_Ratio___repr__,
      f_Ratio_is_whole := f_Ratio_is_whole,
      fd_Ratio_is_whole := PySem.W.fnOf "is_whole" "Ratio.is_whole" (defArgs s_Ratio_is_whole) (defBody s_Ratio_is_whole) (defScope s_Ratio_is_whole) .none kV_Ratio_is_whole dc_Ratio_is_whole pm_Ratio_is_whole an_Ratio_is_whole cd_Ratio_is_whole ct_Ratio_is_whole,
      p_Ratio_is_whole := p_Ratio_is_whole,
      f_told_pair := f_told_pair,
      fd_told_pair := PySem.W.fnOf "told_pair" "told_pair" (defArgs s_told_pair) (defBody s_told_pair) (defScope s_told_pair) .none kV_told_pair dc_told_pair pm_told_pair an_told_pair cd_told_pair ct_told_pair,
      f_Ratio___sub__ := f_Ratio___sub__,
      fd_Ratio___sub__ := PySem.W.fnOf "__sub__" "Ratio.__sub__" (defArgs s_Ratio___sub__) (defBody s_Ratio___sub__) (defScope s_Ratio___sub__) .none kV_Ratio___sub__ dc_Ratio___sub__ pm_Ratio___sub__ an_Ratio___sub__ cd_Ratio___sub__ ct_Ratio___sub__,
      f_Ratio___rsub__ := f_Ratio___rsub__,
      fd_Ratio___rsub__ := PySem.W.fnOf "__rsub__" "Ratio.__rsub__" (defArgs s_Ratio___rsub__) (defBody s_Ratio___rsub__) (defScope s_Ratio___rsub__) .none kV_Ratio___rsub__ dc_Ratio___rsub__ pm_Ratio___rsub__ an_Ratio___rsub__ cd_Ratio___rsub__ ct_Ratio___rsub__,
      f_Ratio_sign := f_Ratio_sign,
      fd_Ratio_sign := PySem.W.fnOf "sign" "Ratio.sign" (defArgs s_Ratio_sign) (defBody s_Ratio_sign) (defScope s_Ratio_sign) .none kV_Ratio_sign dc_Ratio_sign pm_Ratio_sign an_Ratio_sign cd_Ratio_sign ct_Ratio_sign,
      p_Ratio_sign := p_Ratio_sign,
      f_Ratio___add__ := f_Ratio___add__,
      fd_Ratio___add__ := PySem.W.fnOf "__add__" "Ratio.__add__" (defArgs s_Ratio___add__) (defBody s_Ratio___add__) (defScope s_Ratio___add__) .none kV_Ratio___add__ dc_Ratio___add__ pm_Ratio___add__ an_Ratio___add__ cd_Ratio___add__ ct_Ratio___add__,
      f_Ratio___radd__ := f_Ratio___radd__,
      fd_Ratio___radd__ := PySem.W.fnOf "__radd__" "Ratio.__radd__" (defArgs s_Ratio___radd__) (defBody s_Ratio___radd__) (defScope s_Ratio___radd__) .none kV_Ratio___radd__ dc_Ratio___radd__ pm_Ratio___radd__ an_Ratio___radd__ cd_Ratio___radd__ ct_Ratio___radd__,
      f_Ratio___str__ := f_Ratio___str__,
      fd_Ratio___str__ := PySem.W.fnOf "__str__" "Ratio.__str__" (defArgs s_Ratio___str__) (defBody s_Ratio___str__) (defScope s_Ratio___str__) .none kV_Ratio___str__ dc_Ratio___str__ pm_Ratio___str__ an_Ratio___str__ cd_Ratio___str__ ct_Ratio___str__,
      f__law_common := f__law_common,
      fd__law_common := PySem.W.fnOf "_law_common" "_law_common" (defArgs s__law_common) (defBody s__law_common) (defScope s__law_common) .none kV__law_common dc__law_common pm__law_common an__law_common cd__law_common ct__law_common,
      f_Ratio___mul__ := f_Ratio___mul__,
      fd_Ratio___mul__ := PySem.W.fnOf "__mul__" "Ratio.__mul__" (defArgs s_Ratio___mul__) (defBody s_Ratio___mul__) (defScope s_Ratio___mul__) .none kV_Ratio___mul__ dc_Ratio___mul__ pm_Ratio___mul__ an_Ratio___mul__ cd_Ratio___mul__ ct_Ratio___mul__,
      f_Ratio___rmul__ := f_Ratio___rmul__,
      fd_Ratio___rmul__ := PySem.W.fnOf "__rmul__" "Ratio.__rmul__" (defArgs s_Ratio___rmul__) (defBody s_Ratio___rmul__) (defScope s_Ratio___rmul__) .none kV_Ratio___rmul__ dc_Ratio___rmul__ pm_Ratio___rmul__ an_Ratio___rmul__ cd_Ratio___rmul__ ct_Ratio___rmul__,
      f__law_is := f__law_is,
      fd__law_is := PySem.W.fnOf "_law_is" "_law_is" (defArgs s__law_is) (defBody s__law_is) (defScope s__law_is) .none kV__law_is dc__law_is pm__law_is an__law_is cd__law_is ct__law_is,
      f_total_of := f_total_of,
      fd_total_of := PySem.W.fnOf "total_of" "total_of" (defArgs s_total_of) (defBody s_total_of) (defScope s_total_of) .none kV_total_of dc_total_of pm_total_of an_total_of cd_total_of ct_total_of,
      f_ratio_of := f_ratio_of,
      fd_ratio_of := PySem.W.fnOf "ratio_of" "ratio_of" (defArgs s_ratio_of) (defBody s_ratio_of) (defScope s_ratio_of) .none kV_ratio_of dc_ratio_of pm_ratio_of an_ratio_of cd_ratio_of ct_ratio_of,
      f_is_number := f_is_number,
      fd_is_number := PySem.W.fnOf "is_number" "is_number" (defArgs s_is_number) (defBody s_is_number) (defScope s_is_number) .none kV_is_number dc_is_number pm_is_number an_is_number cd_is_number ct_is_number,
      f_want_number := f_want_number,
      fd_want_number := PySem.W.fnOf "want_number" "want_number" (defArgs s_want_number) (defBody s_want_number) (defScope s_want_number) .none kV_want_number dc_want_number pm_want_number an_want_number cd_want_number ct_want_number,
      f_is_list := f_is_list,
      fd_is_list := PySem.W.fnOf "is_list" "is_list" (defArgs s_is_list) (defBody s_is_list) (defScope s_is_list) .none kV_is_list dc_is_list pm_is_list an_is_list cd_is_list ct_is_list,
      f_Ratio_total := f_Ratio_total,
      fd_Ratio_total := PySem.W.fnOf "total" "Ratio.total" (defArgs s_Ratio_total) (defBody s_Ratio_total) (defScope s_Ratio_total) .none kV_Ratio_total dc_Ratio_total pm_Ratio_total an_Ratio_total cd_Ratio_total ct_Ratio_total,
      p_Ratio_total := p_Ratio_total,
      f__law_draw := f__law_draw,
      fd__law_draw := PySem.W.fnOf "_law_draw" "_law_draw" (defArgs s__law_draw) (defBody s__law_draw) (defScope s__law_draw) .none kV__law_draw dc__law_draw pm__law_draw an__law_draw cd__law_draw ct__law_draw,
      f__law_whole := f__law_whole,
      fd__law_whole := PySem.W.fnOf "_law_whole" "_law_whole" (defArgs s__law_whole) (defBody s__law_whole) (defScope s__law_whole) .none kV__law_whole dc__law_whole pm__law_whole an__law_whole cd__law_whole ct__law_whole,
      f__law_pick := f__law_pick,
      fd__law_pick := PySem.W.fnOf "_law_pick" "_law_pick" (defArgs s__law_pick) (defBody s__law_pick) (defScope s__law_pick) .none kV__law_pick dc__law_pick pm__law_pick an__law_pick cd__law_pick ct__law_pick,
      f__law_total_right := f__law_total_right,
      fd__law_total_right := PySem.W.fnOf "_law_total_right" "_law_total_right" (defArgs s__law_total_right) (defBody s__law_total_right) (defScope s__law_total_right) .none kV__law_total_right dc__law_total_right pm__law_total_right an__law_total_right cd__law_total_right ct__law_total_right,
      f_Ratio_is_at_most := f_Ratio_is_at_most,
      fd_Ratio_is_at_most := PySem.W.fnOf "is_at_most" "Ratio.is_at_most" (defArgs s_Ratio_is_at_most) (defBody s_Ratio_is_at_most) (defScope s_Ratio_is_at_most) .none kV_Ratio_is_at_most dc_Ratio_is_at_most pm_Ratio_is_at_most an_Ratio_is_at_most cd_Ratio_is_at_most ct_Ratio_is_at_most,
      f_Ratio_is_below := f_Ratio_is_below,
      fd_Ratio_is_below := PySem.W.fnOf "is_below" "Ratio.is_below" (defArgs s_Ratio_is_below) (defBody s_Ratio_is_below) (defScope s_Ratio_is_below) .none kV_Ratio_is_below dc_Ratio_is_below pm_Ratio_is_below an_Ratio_is_below cd_Ratio_is_below ct_Ratio_is_below,
      f_Ratio_over := f_Ratio_over,
      fd_Ratio_over := PySem.W.fnOf "over" "Ratio.over" (defArgs s_Ratio_over) (defBody s_Ratio_over) (defScope s_Ratio_over) .none kV_Ratio_over dc_Ratio_over pm_Ratio_over an_Ratio_over cd_Ratio_over ct_Ratio_over,
      f__law_whole_right := f__law_whole_right,
      fd__law_whole_right := PySem.W.fnOf "_law_whole_right" "_law_whole_right" (defArgs s__law_whole_right) (defBody s__law_whole_right) (defScope s__law_whole_right) .none kV__law_whole_right dc__law_whole_right pm__law_whole_right an__law_whole_right cd__law_whole_right ct__law_whole_right,
      f_Ratio___neg__ := f_Ratio___neg__,
      fd_Ratio___neg__ := PySem.W.fnOf "__neg__" "Ratio.__neg__" (defArgs s_Ratio___neg__) (defBody s_Ratio___neg__) (defScope s_Ratio___neg__) .none kV_Ratio___neg__ dc_Ratio___neg__ pm_Ratio___neg__ an_Ratio___neg__ cd_Ratio___neg__ ct_Ratio___neg__,
      f__law_two_right := f__law_two_right,
      fd__law_two_right := PySem.W.fnOf "_law_two_right" "_law_two_right" (defArgs s__law_two_right) (defBody s__law_two_right) (defScope s__law_two_right) .none kV__law_two_right dc__law_two_right pm__law_two_right an__law_two_right cd__law_two_right ct__law_two_right,
      f__law_top := f__law_top,
      fd__law_top := PySem.W.fnOf "_law_top" "_law_top" (defArgs s__law_top) (defBody s__law_top) (defScope s__law_top) .none kV__law_top dc__law_top pm__law_top an__law_top cd__law_top ct__law_top,
      f__law_pair := f__law_pair,
      fd__law_pair := PySem.W.fnOf "_law_pair" "_law_pair" (defArgs s__law_pair) (defBody s__law_pair) (defScope s__law_pair) .none kV__law_pair dc__law_pair pm__law_pair an__law_pair cd__law_pair ct__law_pair,
      f__law_pot := f__law_pot,
      fd__law_pot := PySem.W.fnOf "_law_pot" "_law_pot" (defArgs s__law_pot) (defBody s__law_pot) (defScope s__law_pot) .none kV__law_pot dc__law_pot pm__law_pot an__law_pot cd__law_pot ct__law_pot,
      f_law := f_law,
      fd_law := PySem.W.fnOf "law" "law" (defArgs s_law) (defBody s_law) (defScope s_law) .none kV_law dc_law pm_law an_law cd_law ct_law } :=
  {
    F_Ratio___eq__ := ⟨⟨_, _, _, _, _, _, _, _, _, _, rfl, l_Ratio___eq__, c_Ratio___eq__, .inl ⟨rfl, rfl⟩, .inl rfl⟩, k_Ratio___eq__⟩,
    m_Ratio___eq__ := ⟨a_Ratio___eq__, i_Ratio___eq__, k_Ratio___eq__⟩,
    F_divisor_of := ⟨⟨_, _, _, _, _, _, _, _, _, _, rfl, l_divisor_of, c_divisor_of, .inl ⟨rfl, rfl⟩, .inl rfl⟩, k_divisor_of⟩,
    g_divisor_of := PySem.W.mg_of X G a_divisor_of,
    F_is_integer := ⟨⟨_, _, _, _, _, _, _, _, _, _, rfl, l_is_integer, c_is_integer, .inl ⟨rfl, rfl⟩, .inl rfl⟩, k_is_integer⟩,
    g_is_integer := PySem.W.mg_of X G a_is_integer,
    F_Ratio___init__ := ⟨⟨_, _, _, _, _, _, _, _, _, _, rfl, l_Ratio___init__, c_Ratio___init__, .inr ⟨by simp, T_Ratio___init__, _, [.int 1 tt_Ratio___init___0], tn_Ratio___init__, rfl, d_Ratio___init__, rfl, .cons ⟨_, rfl⟩ (.nil)⟩, .inl rfl⟩, k_Ratio___init__⟩,
    F_Ratio_size := ⟨⟨_, _, _, _, _, _, _, _, _, _, rfl, l_Ratio_size, c_Ratio_size, .inl ⟨rfl, rfl⟩, .inl rfl⟩, k_Ratio_size⟩,
    m_Ratio_size := ⟨a_Ratio_size, i_Ratio_size, k_Ratio_size⟩,
    F_Ratio_bottom := ⟨⟨_, _, _, _, _, _, _, _, _, _, rfl, l_Ratio_bottom, c_Ratio_bottom, .inl ⟨rfl, rfl⟩, .inl rfl⟩, k_Ratio_bottom⟩,
    p_Ratio_bottom := ⟨a_Ratio_bottom, g_Ratio_bottom, t_Ratio_bottom, ⟨_, r0_Ratio_bottom⟩⟩,
    F_Ratio_top := ⟨⟨_, _, _, _, _, _, _, _, _, _, rfl, l_Ratio_top, c_Ratio_top, .inl ⟨rfl, rfl⟩, .inl rfl⟩, k_Ratio_top⟩,
    p_Ratio_top := ⟨a_Ratio_top, g_Ratio_top, t_Ratio_top, ⟨_, r0_Ratio_top⟩⟩,
    F_digits_of := ⟨⟨_, _, _, _, _, _, _, _, _, _, rfl, l_digits_of, c_digits_of, .inl ⟨rfl, rfl⟩, .inl rfl⟩, k_digits_of⟩,
    g_digits_of := PySem.W.mg_of X G a_digits_of,
    F_Ratio___repr__ := ⟨⟨_, _, _, _, _, _, _, _, _, _, rfl, l_Ratio___repr__, c_Ratio___repr__, .inl ⟨rfl, rfl⟩, .inl rfl⟩, k_Ratio___repr__⟩,
    m_Ratio___repr__ := ⟨a_Ratio___repr__, i_Ratio___repr__, k_Ratio___repr__⟩,
    F_Ratio_is_whole := ⟨⟨_, _, _, _, _, _, _, _, _, _, rfl, l_Ratio_is_whole, c_Ratio_is_whole, .inl ⟨rfl, rfl⟩, .inl rfl⟩, k_Ratio_is_whole⟩,
    p_Ratio_is_whole := ⟨a_Ratio_is_whole, g_Ratio_is_whole, t_Ratio_is_whole, ⟨_, r0_Ratio_is_whole⟩⟩,
    F_told_pair := ⟨⟨_, _, _, _, _, _, _, _, _, _, rfl, l_told_pair, c_told_pair, .inl ⟨rfl, rfl⟩, .inl rfl⟩, k_told_pair⟩,
    g_told_pair := PySem.W.mg_of X G a_told_pair,
    F_Ratio___sub__ := ⟨⟨_, _, _, _, _, _, _, _, _, _, rfl, l_Ratio___sub__, c_Ratio___sub__, .inl ⟨rfl, rfl⟩, .inl rfl⟩, k_Ratio___sub__⟩,
    m_Ratio___sub__ := ⟨a_Ratio___sub__, i_Ratio___sub__, k_Ratio___sub__⟩,
    F_Ratio___rsub__ := ⟨⟨_, _, _, _, _, _, _, _, _, _, rfl, l_Ratio___rsub__, c_Ratio___rsub__, .inl ⟨rfl, rfl⟩, .inl rfl⟩, k_Ratio___rsub__⟩,
    m_Ratio___rsub__ := ⟨a_Ratio___rsub__, i_Ratio___rsub__, k_Ratio___rsub__⟩,
    F_Ratio_sign := ⟨⟨_, _, _, _, _, _, _, _, _, _, rfl, l_Ratio_sign, c_Ratio_sign, .inl ⟨rfl, rfl⟩, .inl rfl⟩, k_Ratio_sign⟩,
    p_Ratio_sign := ⟨a_Ratio_sign, g_Ratio_sign, t_Ratio_sign, ⟨_, r0_Ratio_sign⟩⟩,
    F_Ratio___add__ := ⟨⟨_, _, _, _, _, _, _, _, _, _, rfl, l_Ratio___add__, c_Ratio___add__, .inl ⟨rfl, rfl⟩, .inl rfl⟩, k_Ratio___add__⟩,
    m_Ratio___add__ := ⟨a_Ratio___add__, i_Ratio___add__, k_Ratio___add__⟩,
    F_Ratio___radd__ := ⟨⟨_, _, _, _, _, _, _, _, _, _, rfl, l_Ratio___radd__, c_Ratio___radd__, .inl ⟨rfl, rfl⟩, .inl rfl⟩, k_Ratio___radd__⟩,
    m_Ratio___radd__ := ⟨a_Ratio___radd__, i_Ratio___radd__, k_Ratio___radd__⟩,
    F_Ratio___str__ := ⟨⟨_, _, _, _, _, _, _, _, _, _, rfl, l_Ratio___str__, c_Ratio___str__, .inl ⟨rfl, rfl⟩, .inl rfl⟩, k_Ratio___str__⟩,
    m_Ratio___str__ := ⟨a_Ratio___str__, i_Ratio___str__, k_Ratio___str__⟩,
    F__law_common := ⟨⟨_, _, _, _, _, _, _, _, _, _, rfl, l__law_common, c__law_common, .inl ⟨rfl, rfl⟩, .inl rfl⟩, k__law_common⟩,
    g__law_common := PySem.W.mg_of X G a__law_common,
    F_Ratio___mul__ := ⟨⟨_, _, _, _, _, _, _, _, _, _, rfl, l_Ratio___mul__, c_Ratio___mul__, .inl ⟨rfl, rfl⟩, .inl rfl⟩, k_Ratio___mul__⟩,
    m_Ratio___mul__ := ⟨a_Ratio___mul__, i_Ratio___mul__, k_Ratio___mul__⟩,
    F_Ratio___rmul__ := ⟨⟨_, _, _, _, _, _, _, _, _, _, rfl, l_Ratio___rmul__, c_Ratio___rmul__, .inl ⟨rfl, rfl⟩, .inl rfl⟩, k_Ratio___rmul__⟩,
    m_Ratio___rmul__ := ⟨a_Ratio___rmul__, i_Ratio___rmul__, k_Ratio___rmul__⟩,
    F__law_is := ⟨⟨_, _, _, _, _, _, _, _, _, _, rfl, l__law_is, c__law_is, .inl ⟨rfl, rfl⟩, .inl rfl⟩, k__law_is⟩,
    g__law_is := PySem.W.mg_of X G a__law_is,
    F_total_of := ⟨⟨_, _, _, _, _, _, _, _, _, _, rfl, l_total_of, c_total_of, .inl ⟨rfl, rfl⟩, .inl rfl⟩, k_total_of⟩,
    g_total_of := PySem.W.mg_of X G a_total_of,
    F_ratio_of := ⟨⟨_, _, _, _, _, _, _, _, _, _, rfl, l_ratio_of, c_ratio_of, .inl ⟨rfl, rfl⟩, .inl rfl⟩, k_ratio_of⟩,
    g_ratio_of := PySem.W.mg_of X G a_ratio_of,
    F_is_number := ⟨⟨_, _, _, _, _, _, _, _, _, _, rfl, l_is_number, c_is_number, .inl ⟨rfl, rfl⟩, .inl rfl⟩, k_is_number⟩,
    g_is_number := PySem.W.mg_of X G a_is_number,
    F_want_number := ⟨⟨_, _, _, _, _, _, _, _, _, _, rfl, l_want_number, c_want_number, .inl ⟨rfl, rfl⟩, .inl rfl⟩, k_want_number⟩,
    g_want_number := PySem.W.mg_of X G a_want_number,
    F_is_list := ⟨⟨_, _, _, _, _, _, _, _, _, _, rfl, l_is_list, c_is_list, .inl ⟨rfl, rfl⟩, .inl rfl⟩, k_is_list⟩,
    g_is_list := PySem.W.mg_of X G a_is_list,
    F_Ratio_total := ⟨⟨_, _, _, _, _, _, _, _, _, _, rfl, l_Ratio_total, c_Ratio_total, .inl ⟨rfl, rfl⟩, .inl rfl⟩, k_Ratio_total⟩,
    cm_Ratio_total := ⟨a_Ratio_total, ⟨_, r0_Ratio_total⟩, n_Ratio_total⟩,
    F__law_draw := ⟨⟨_, _, _, _, _, _, _, _, _, _, rfl, l__law_draw, c__law_draw, .inl ⟨rfl, rfl⟩, .inl rfl⟩, k__law_draw⟩,
    g__law_draw := PySem.W.mg_of X G a__law_draw,
    F__law_whole := ⟨⟨_, _, _, _, _, _, _, _, _, _, rfl, l__law_whole, c__law_whole, .inl ⟨rfl, rfl⟩, .inl rfl⟩, k__law_whole⟩,
    g__law_whole := PySem.W.mg_of X G a__law_whole,
    F__law_pick := ⟨⟨_, _, _, _, _, _, _, _, _, _, rfl, l__law_pick, c__law_pick, .inl ⟨rfl, rfl⟩, .inl rfl⟩, k__law_pick⟩,
    g__law_pick := PySem.W.mg_of X G a__law_pick,
    F__law_total_right := ⟨⟨_, _, _, _, _, _, _, _, _, _, rfl, l__law_total_right, c__law_total_right, .inl ⟨rfl, rfl⟩, .inl rfl⟩, k__law_total_right⟩,
    g__law_total_right := PySem.W.mg_of X G a__law_total_right,
    F_Ratio_is_at_most := ⟨⟨_, _, _, _, _, _, _, _, _, _, rfl, l_Ratio_is_at_most, c_Ratio_is_at_most, .inl ⟨rfl, rfl⟩, .inl rfl⟩, k_Ratio_is_at_most⟩,
    m_Ratio_is_at_most := ⟨a_Ratio_is_at_most, i_Ratio_is_at_most, k_Ratio_is_at_most⟩,
    F_Ratio_is_below := ⟨⟨_, _, _, _, _, _, _, _, _, _, rfl, l_Ratio_is_below, c_Ratio_is_below, .inl ⟨rfl, rfl⟩, .inl rfl⟩, k_Ratio_is_below⟩,
    m_Ratio_is_below := ⟨a_Ratio_is_below, i_Ratio_is_below, k_Ratio_is_below⟩,
    F_Ratio_over := ⟨⟨_, _, _, _, _, _, _, _, _, _, rfl, l_Ratio_over, c_Ratio_over, .inl ⟨rfl, rfl⟩, .inl rfl⟩, k_Ratio_over⟩,
    m_Ratio_over := ⟨a_Ratio_over, i_Ratio_over, k_Ratio_over⟩,
    F__law_whole_right := ⟨⟨_, _, _, _, _, _, _, _, _, _, rfl, l__law_whole_right, c__law_whole_right, .inl ⟨rfl, rfl⟩, .inl rfl⟩, k__law_whole_right⟩,
    g__law_whole_right := PySem.W.mg_of X G a__law_whole_right,
    F_Ratio___neg__ := ⟨⟨_, _, _, _, _, _, _, _, _, _, rfl, l_Ratio___neg__, c_Ratio___neg__, .inl ⟨rfl, rfl⟩, .inl rfl⟩, k_Ratio___neg__⟩,
    m_Ratio___neg__ := ⟨a_Ratio___neg__, i_Ratio___neg__, k_Ratio___neg__⟩,
    F__law_two_right := ⟨⟨_, _, _, _, _, _, _, _, _, _, rfl, l__law_two_right, c__law_two_right, .inl ⟨rfl, rfl⟩, .inl rfl⟩, k__law_two_right⟩,
    g__law_two_right := PySem.W.mg_of X G a__law_two_right,
    F__law_top := ⟨⟨_, _, _, _, _, _, _, _, _, _, rfl, l__law_top, c__law_top, .inl ⟨rfl, rfl⟩, .inl rfl⟩, k__law_top⟩,
    g__law_top := PySem.W.mg_of X G a__law_top,
    F__law_pair := ⟨⟨_, _, _, _, _, _, _, _, _, _, rfl, l__law_pair, c__law_pair, .inl ⟨rfl, rfl⟩, .inl rfl⟩, k__law_pair⟩,
    g__law_pair := PySem.W.mg_of X G a__law_pair,
    F__law_pot := ⟨⟨_, _, _, _, _, _, _, _, _, _, rfl, l__law_pot, c__law_pot, .inl ⟨rfl, rfl⟩, .inl rfl⟩, k__law_pot⟩,
    g__law_pot := PySem.W.mg_of X G a__law_pot,
    F_law := ⟨⟨_, _, _, _, _, _, _, _, _, _, rfl, l_law, c_law, .inl ⟨rfl, rfl⟩, .inl rfl⟩, k_law⟩,
    g_law := PySem.W.mg_of X G a_law,
    gm_Ratio := PySem.W.mg_of X G aC_Ratio,
    cls_Ratio := ⟨pg_Ratio, hd_Ratio, po_Ratio, sa_Ratio⟩,
    clf_Ratio := ⟨⟨pg_Ratio, hd_Ratio, po_Ratio, sa_Ratio⟩, ca_Ratio, cn0, ct0, cm_Ratio⟩,
    mk_Ratio := ⟨mk_Ratio, a_Ratio___init__, i_Ratio___init__, kc_Ratio⟩,
    na_Ratio_own_top := na_Ratio_own_top,
    na_Ratio_own_bottom := na_Ratio_own_bottom,
    op_Ratio_add := ⟨sf_Ratio, du_add ▸ a_Ratio___add__, i_Ratio___add__, dr_add ▸ a_Ratio___radd__, i_Ratio___radd__, ⟨_, du_add ▸ it_Ratio_add⟩, ⟨_, dr_add ▸ ir_Ratio_add⟩, si_Ratio, is_Ratio⟩,
    op_Ratio_sub := ⟨sf_Ratio, du_sub ▸ a_Ratio___sub__, i_Ratio___sub__, dr_sub ▸ a_Ratio___rsub__, i_Ratio___rsub__, ⟨_, du_sub ▸ it_Ratio_sub⟩, ⟨_, dr_sub ▸ ir_Ratio_sub⟩, si_Ratio, is_Ratio⟩,
    op_Ratio_mul := ⟨sf_Ratio, du_mul ▸ a_Ratio___mul__, i_Ratio___mul__, dr_mul ▸ a_Ratio___rmul__, i_Ratio___rmul__, ⟨_, du_mul ▸ it_Ratio_mul⟩, ⟨_, dr_mul ▸ ir_Ratio_mul⟩, si_Ratio, is_Ratio⟩,
    eq_Ratio := ⟨a_Ratio___eq__, i_Ratio___eq__, ne_Ratio, ob_Ratio, si_Ratio, sbool_Ratio, sstr_Ratio, sNoneType_Ratio⟩,
    neg_Ratio := a_Ratio___neg__,
    negf_Ratio := i_Ratio___neg__,
    str_Ratio := a_Ratio___str__,
    strf_Ratio := i_Ratio___str__,
    repr_Ratio := a_Ratio___repr__,
    reprf_Ratio := i_Ratio___repr__,
    cr_Ratio := ⟨rd_Ratio, ga_Ratio⟩,
    b_isinstance := PySem.W.mg_none_of X G z_isinstance,
    b_bool := PySem.W.mg_none_of X G z_bool,
    b_int := PySem.W.mg_none_of X G z_int,
    b_abs := PySem.W.mg_none_of X G z_abs,
    c_PART := ⟨_, PySem.W.mg_of X G z_PART⟩,
    b_str := PySem.W.mg_none_of X G z_str,
    b_repr := PySem.W.mg_none_of X G z_repr,
    b_list := PySem.W.mg_none_of X G z_list,
    b_tuple := PySem.W.mg_none_of X G z_tuple,
    b_divmod := PySem.W.mg_none_of X G z_divmod,
    b_len := PySem.W.mg_none_of X G z_len,
    b_range := PySem.W.mg_none_of X G z_range,
    b_max := PySem.W.mg_none_of X G z_max,
    b_all := PySem.W.mg_none_of X G z_all,
    i_gcd := PySem.W.mg_of X G z_gcd,
    kisi_Ratio_NoneType := kit_in ic_Ratio ty_Ratio ty_ne_ref su_NoneType_Ratio,
    kisi_Ratio_bool := kit_in ic_Ratio ty_Ratio ty_ne_ref su_bool_Ratio,
    kisi_Ratio_int := kit_in ic_Ratio ty_Ratio ty_ne_ref su_int_Ratio,
    kisi_Ratio_str := kit_in ic_Ratio ty_Ratio ty_ne_ref su_str_Ratio,
    kisi_Ratio_tuple := kit_in ic_Ratio ty_Ratio ty_ne_ref su_tuple_Ratio,
    kisi_Ratio_list := kit_in ic_Ratio ty_Ratio ty_ne_ref su_list_Ratio,
    kisi_Ratio_Ratio := kit_self,
    kisi_bool_Ratio := kit_out (by decide +kernel) su_Ratio_bool,
    kisi_int_Ratio := kit_out (by decide +kernel) su_Ratio_int,
    kisi_list_tuple_Ratio := kit_out2 (by decide +kernel) su_Ratio_list (by decide +kernel) su_Ratio_tuple }
theorem law_mk {prog : Program} {w : World} {K : PySem.W.Frag} {h : Heap} {mg : Str → Option Value} {fa : Addr} (hmg : mg "law" = some (.ref fa)) {a : AD} (F : PF K mg a) :
    ∃ (fd : FuncData) (PP : Pr), PP.K = K ∧ (∀ (s : Shared) (u : Value), BindsTo s fd ⟨[u], []⟩ [("_law_script", u)]) ∧ ∀ base : Heap, K.In base → base.Ns mainGlobals mg → FnD prog w K mg base PP 9 true fa fd ["_law_script"] d_law := by
  have e := hmg.symm.trans F.g_law
  cases e
  refine ⟨a.fd_law, PR K a, rfl, fun s u => ?_, fun base _ _ => t_law F⟩
  obtain ⟨oc, od, dV, kV, doc, pm, an, cdv, ct, osl, hfd, lk, hcd, hD, hK⟩ := F.F_law.ex
  rcases hD with ⟨_, rfl⟩ | ⟨e, _⟩
  · rw [hfd]
    exact .of_eq rfl
  · exact absurd rfl e
--PURE
end Sh.Law
open PySem PySem.W PyProof.Rows
set_option maxRecDepth 100000 in
set_option maxHeartbeats 0 in
theorem PySem.Challenge.cw_surerwalks_k11_whole_numbers_reckoned_holds : PySem.Challenge.rw_surerwalks_k11_whole_numbers_reckoned.Holds := by
  w_on; o_law; k_head; (case hw => w_witness2)
  k_fill
  refine Sh.law_walk (l := PySem.Challenge.rw_surerwalks_k11_whole_numbers_reckoned) (n := 63) (k := 9) (x := "_law_script") (d := Sh.Law.d_law) rfl (by decide) rfl ⟨rfl, by decide, by decide⟩ (fun w h Y => PySem.W.kIn_of Y) ?F Sh.Law.pure_law
  case F =>
    intro w mg fa h KX G hmg
    refine' Sh.Law.law_mk (h := h) hmg (Sh.Law.all_mk (w := w) KX G ?aC_Ratio ?pg_Ratio ?hd_Ratio ?po_Ratio ?sa_Ratio ?ca_Ratio ?cm_Ratio ?mk_Ratio ?kc_Ratio ?na_Ratio_own_top ?na_Ratio_own_bottom ?cn0 ?ct0 ?a_Ratio___eq__ ?i_Ratio___eq__ ?l_Ratio___eq__ ?c_Ratio___eq__ ?k_Ratio___eq__ ?a_divisor_of ?l_divisor_of ?c_divisor_of ?k_divisor_of ?a_is_integer ?l_is_integer ?c_is_integer ?k_is_integer ?a_Ratio___init__ ?i_Ratio___init__ ?l_Ratio___init__ ?c_Ratio___init__ ?k_Ratio___init__ ?d_Ratio___init__ ?a_Ratio_size ?i_Ratio_size ?l_Ratio_size ?c_Ratio_size ?k_Ratio_size ?a_Ratio_bottom ?g_Ratio_bottom ?t_Ratio_bottom ?r0_Ratio_bottom ?l_Ratio_bottom ?c_Ratio_bottom ?k_Ratio_bottom ?a_Ratio_top ?g_Ratio_top ?t_Ratio_top ?r0_Ratio_top ?l_Ratio_top ?c_Ratio_top ?k_Ratio_top ?a_digits_of ?l_digits_of ?c_digits_of ?k_digits_of ?a_Ratio___repr__ ?i_Ratio___repr__ ?l_Ratio___repr__ ?c_Ratio___repr__ ?k_Ratio___repr__ ?a_Ratio_is_whole ?g_Ratio_is_whole ?t_Ratio_is_whole ?r0_Ratio_is_whole ?l_Ratio_is_whole ?c_Ratio_is_whole ?k_Ratio_is_whole ?a_told_pair ?l_told_pair ?c_told_pair ?k_told_pair ?a_Ratio___sub__ ?i_Ratio___sub__ ?l_Ratio___sub__ ?c_Ratio___sub__ ?k_Ratio___sub__ ?a_Ratio___rsub__ ?i_Ratio___rsub__ ?l_Ratio___rsub__ ?c_Ratio___rsub__ ?k_Ratio___rsub__ ?a_Ratio_sign ?g_Ratio_sign ?t_Ratio_sign ?r0_Ratio_sign ?l_Ratio_sign ?c_Ratio_sign ?k_Ratio_sign ?a_Ratio___add__ ?i_Ratio___add__ ?l_Ratio___add__ ?c_Ratio___add__ ?k_Ratio___add__ ?a_Ratio___radd__ ?i_Ratio___radd__ ?l_Ratio___radd__ ?c_Ratio___radd__ ?k_Ratio___radd__ ?a_Ratio___str__ ?i_Ratio___str__ ?l_Ratio___str__ ?c_Ratio___str__ ?k_Ratio___str__ ?a__law_common ?l__law_common ?c__law_common ?k__law_common ?a_Ratio___mul__ ?i_Ratio___mul__ ?l_Ratio___mul__ ?c_Ratio___mul__ ?k_Ratio___mul__ ?a_Ratio___rmul__ ?i_Ratio___rmul__ ?l_Ratio___rmul__ ?c_Ratio___rmul__ ?k_Ratio___rmul__ ?a__law_is ?l__law_is ?c__law_is ?k__law_is ?a_total_of ?l_total_of ?c_total_of ?k_total_of ?a_ratio_of ?l_ratio_of ?c_ratio_of ?k_ratio_of ?a_is_number ?l_is_number ?c_is_number ?k_is_number ?a_want_number ?l_want_number ?c_want_number ?k_want_number ?a_is_list ?l_is_list ?c_is_list ?k_is_list ?a_Ratio_total ?r0_Ratio_total ?n_Ratio_total ?rd_Ratio ?ga_Ratio ?l_Ratio_total ?c_Ratio_total ?k_Ratio_total ?a__law_draw ?l__law_draw ?c__law_draw ?k__law_draw ?a__law_whole ?l__law_whole ?c__law_whole ?k__law_whole ?a__law_pick ?l__law_pick ?c__law_pick ?k__law_pick ?a__law_total_right ?l__law_total_right ?c__law_total_right ?k__law_total_right ?a_Ratio_is_at_most ?i_Ratio_is_at_most ?l_Ratio_is_at_most ?c_Ratio_is_at_most ?k_Ratio_is_at_most ?a_Ratio_is_below ?i_Ratio_is_below ?l_Ratio_is_below ?c_Ratio_is_below ?k_Ratio_is_below ?a_Ratio_over ?i_Ratio_over ?l_Ratio_over ?c_Ratio_over ?k_Ratio_over ?a__law_whole_right ?l__law_whole_right ?c__law_whole_right ?k__law_whole_right ?a_Ratio___neg__ ?i_Ratio___neg__ ?l_Ratio___neg__ ?c_Ratio___neg__ ?k_Ratio___neg__ ?a__law_two_right ?l__law_two_right ?c__law_two_right ?k__law_two_right ?a__law_top ?l__law_top ?c__law_top ?k__law_top ?a__law_pair ?l__law_pair ?c__law_pair ?k__law_pair ?a__law_pot ?l__law_pot ?c__law_pot ?k__law_pot ?a_law ?l_law ?c_law ?k_law ?sf_Ratio ?it_Ratio_add ?ir_Ratio_add ?si_Ratio ?is_Ratio ?it_Ratio_sub ?ir_Ratio_sub ?it_Ratio_mul ?ir_Ratio_mul ?ne_Ratio ?ob_Ratio ?sbool_Ratio ?sstr_Ratio ?sNoneType_Ratio ?z_isinstance ?z_bool ?z_int ?z_abs ?z_PART ?z_str ?z_repr ?z_list ?z_tuple ?z_divmod ?z_len ?z_range ?z_max ?z_all ?z_gcd ?ic_Ratio ?ty_Ratio ?su_NoneType_Ratio ?su_bool_Ratio ?su_int_Ratio ?su_str_Ratio ?su_tuple_Ratio ?su_list_Ratio ?su_Ratio_bool ?su_Ratio_int ?su_Ratio_list ?su_Ratio_tuple)
    (case aC_Ratio => k_is)
    (case pg_Ratio => k_is)
    (case hd_Ratio => k_is)
    (case po_Ratio => k_is)
    (case sa_Ratio => k_is)
    (case ca_Ratio => k_is)
    (case cm_Ratio => k_is)
    (case mk_Ratio => k_is)
    (case kc_Ratio => k_is)
    (case na_Ratio_own_top => k_is)
    (case na_Ratio_own_bottom => k_is)
    (case cn0 => k_is)
    (case ct0 => k_is)
    (case a_Ratio___eq__ => k_is)
    (case i_Ratio___eq__ => k_is)
    (case l_Ratio___eq__ => k_is)
    (case c_Ratio___eq__ => k_is)
    (case k_Ratio___eq__ => k_is)
    (case a_divisor_of => k_is)
    (case l_divisor_of => k_is)
    (case c_divisor_of => k_is)
    (case k_divisor_of => k_is)
    (case a_is_integer => k_is)
    (case l_is_integer => k_is)
    (case c_is_integer => k_is)
    (case k_is_integer => k_is)
    (case a_Ratio___init__ => k_is)
    (case i_Ratio___init__ => k_is)
    (case l_Ratio___init__ => k_is)
    (case c_Ratio___init__ => k_is)
    (case k_Ratio___init__ => k_is)
    (case d_Ratio___init__ => k_is)
    (case a_Ratio_size => k_is)
    (case i_Ratio_size => k_is)
    (case l_Ratio_size => k_is)
    (case c_Ratio_size => k_is)
    (case k_Ratio_size => k_is)
    (case a_Ratio_bottom => k_is)
    (case g_Ratio_bottom => k_is)
    (case t_Ratio_bottom => k_is)
    (case r0_Ratio_bottom => k_is)
    (case l_Ratio_bottom => k_is)
    (case c_Ratio_bottom => k_is)
    (case k_Ratio_bottom => k_is)
    (case a_Ratio_top => k_is)
    (case g_Ratio_top => k_is)
    (case t_Ratio_top => k_is)
    (case r0_Ratio_top => k_is)
    (case l_Ratio_top => k_is)
    (case c_Ratio_top => k_is)
    (case k_Ratio_top => k_is)
    (case a_digits_of => k_is)
    (case l_digits_of => k_is)
    (case c_digits_of => k_is)
    (case k_digits_of => k_is)
    (case a_Ratio___repr__ => k_is)
    (case i_Ratio___repr__ => k_is)
    (case l_Ratio___repr__ => k_is)
    (case c_Ratio___repr__ => k_is)
    (case k_Ratio___repr__ => k_is)
    (case a_Ratio_is_whole => k_is)
    (case g_Ratio_is_whole => k_is)
    (case t_Ratio_is_whole => k_is)
    (case r0_Ratio_is_whole => k_is)
    (case l_Ratio_is_whole => k_is)
    (case c_Ratio_is_whole => k_is)
    (case k_Ratio_is_whole => k_is)
    (case a_told_pair => k_is)
    (case l_told_pair => k_is)
    (case c_told_pair => k_is)
    (case k_told_pair => k_is)
    (case a_Ratio___sub__ => k_is)
    (case i_Ratio___sub__ => k_is)
    (case l_Ratio___sub__ => k_is)
    (case c_Ratio___sub__ => k_is)
    (case k_Ratio___sub__ => k_is)
    (case a_Ratio___rsub__ => k_is)
    (case i_Ratio___rsub__ => k_is)
    (case l_Ratio___rsub__ => k_is)
    (case c_Ratio___rsub__ => k_is)
    (case k_Ratio___rsub__ => k_is)
    (case a_Ratio_sign => k_is)
    (case g_Ratio_sign => k_is)
    (case t_Ratio_sign => k_is)
    (case r0_Ratio_sign => k_is)
    (case l_Ratio_sign => k_is)
    (case c_Ratio_sign => k_is)
    (case k_Ratio_sign => k_is)
    (case a_Ratio___add__ => k_is)
    (case i_Ratio___add__ => k_is)
    (case l_Ratio___add__ => k_is)
    (case c_Ratio___add__ => k_is)
    (case k_Ratio___add__ => k_is)
    (case a_Ratio___radd__ => k_is)
    (case i_Ratio___radd__ => k_is)
    (case l_Ratio___radd__ => k_is)
    (case c_Ratio___radd__ => k_is)
    (case k_Ratio___radd__ => k_is)
    (case a_Ratio___str__ => k_is)
    (case i_Ratio___str__ => k_is)
    (case l_Ratio___str__ => k_is)
    (case c_Ratio___str__ => k_is)
    (case k_Ratio___str__ => k_is)
    (case a__law_common => k_is)
    (case l__law_common => k_is)
    (case c__law_common => k_is)
    (case k__law_common => k_is)
    (case a_Ratio___mul__ => k_is)
    (case i_Ratio___mul__ => k_is)
    (case l_Ratio___mul__ => k_is)
    (case c_Ratio___mul__ => k_is)
    (case k_Ratio___mul__ => k_is)
    (case a_Ratio___rmul__ => k_is)
    (case i_Ratio___rmul__ => k_is)
    (case l_Ratio___rmul__ => k_is)
    (case c_Ratio___rmul__ => k_is)
    (case k_Ratio___rmul__ => k_is)
    (case a__law_is => k_is)
    (case l__law_is => k_is)
    (case c__law_is => k_is)
    (case k__law_is => k_is)
    (case a_total_of => k_is)
    (case l_total_of => k_is)
    (case c_total_of => k_is)
    (case k_total_of => k_is)
    (case a_ratio_of => k_is)
    (case l_ratio_of => k_is)
    (case c_ratio_of => k_is)
    (case k_ratio_of => k_is)
    (case a_is_number => k_is)
    (case l_is_number => k_is)
    (case c_is_number => k_is)
    (case k_is_number => k_is)
    (case a_want_number => k_is)
    (case l_want_number => k_is)
    (case c_want_number => k_is)
    (case k_want_number => k_is)
    (case a_is_list => k_is)
    (case l_is_list => k_is)
    (case c_is_list => k_is)
    (case k_is_list => k_is)
    (case a_Ratio_total => k_is)
    (case r0_Ratio_total => k_is)
    (case n_Ratio_total => k_is)
    (case rd_Ratio => k_is)
    (case ga_Ratio => k_is)
    (case l_Ratio_total => k_is)
    (case c_Ratio_total => k_is)
    (case k_Ratio_total => k_is)
    (case a__law_draw => k_is)
    (case l__law_draw => k_is)
    (case c__law_draw => k_is)
    (case k__law_draw => k_is)
    (case a__law_whole => k_is)
    (case l__law_whole => k_is)
    (case c__law_whole => k_is)
    (case k__law_whole => k_is)
    (case a__law_pick => k_is)
    (case l__law_pick => k_is)
    (case c__law_pick => k_is)
    (case k__law_pick => k_is)
    (case a__law_total_right => k_is)
    (case l__law_total_right => k_is)
    (case c__law_total_right => k_is)
    (case k__law_total_right => k_is)
    (case a_Ratio_is_at_most => k_is)
    (case i_Ratio_is_at_most => k_is)
    (case l_Ratio_is_at_most => k_is)
    (case c_Ratio_is_at_most => k_is)
    (case k_Ratio_is_at_most => k_is)
    (case a_Ratio_is_below => k_is)
    (case i_Ratio_is_below => k_is)
    (case l_Ratio_is_below => k_is)
    (case c_Ratio_is_below => k_is)
    (case k_Ratio_is_below => k_is)
    (case a_Ratio_over => k_is)
    (case i_Ratio_over => k_is)
    (case l_Ratio_over => k_is)
    (case c_Ratio_over => k_is)
    (case k_Ratio_over => k_is)
    (case a__law_whole_right => k_is)
    (case l__law_whole_right => k_is)
    (case c__law_whole_right => k_is)
    (case k__law_whole_right => k_is)
    (case a_Ratio___neg__ => k_is)
    (case i_Ratio___neg__ => k_is)
    (case l_Ratio___neg__ => k_is)
    (case c_Ratio___neg__ => k_is)
    (case k_Ratio___neg__ => k_is)
    (case a__law_two_right => k_is)
    (case l__law_two_right => k_is)
    (case c__law_two_right => k_is)
    (case k__law_two_right => k_is)
    (case a__law_top => k_is)
    (case l__law_top => k_is)
    (case c__law_top => k_is)
    (case k__law_top => k_is)
    (case a__law_pair => k_is)
    (case l__law_pair => k_is)
    (case c__law_pair => k_is)
    (case k__law_pair => k_is)
    (case a__law_pot => k_is)
    (case l__law_pot => k_is)
    (case c__law_pot => k_is)
    (case k__law_pot => k_is)
    (case a_law => k_is)
    (case l_law => k_is)
    (case c_law => k_is)
    (case k_law => k_is)
    (case sf_Ratio => k_is)
    (case it_Ratio_add => k_is)
    (case ir_Ratio_add => k_is)
    (case si_Ratio => k_is)
    (case is_Ratio => k_is)
    (case it_Ratio_sub => k_is)
    (case ir_Ratio_sub => k_is)
    (case it_Ratio_mul => k_is)
    (case ir_Ratio_mul => k_is)
    (case ne_Ratio => k_is)
    (case ob_Ratio => k_is)
    (case sbool_Ratio => k_is)
    (case sstr_Ratio => k_is)
    (case sNoneType_Ratio => k_is)
    (case z_isinstance => k_is)
    (case z_bool => k_is)
    (case z_int => k_is)
    (case z_abs => k_is)
    (case z_PART => k_is)
    (case z_str => k_is)
    (case z_repr => k_is)
    (case z_list => k_is)
    (case z_tuple => k_is)
    (case z_divmod => k_is)
    (case z_len => k_is)
    (case z_range => k_is)
    (case z_max => k_is)
    (case z_all => k_is)
    (case z_gcd => k_is)
    (case ic_Ratio => k_is)
    (case ty_Ratio => k_is)
    (case su_NoneType_Ratio => k_is)
    (case su_bool_Ratio => k_is)
    (case su_int_Ratio => k_is)
    (case su_str_Ratio => k_is)
    (case su_tuple_Ratio => k_is)
    (case su_list_Ratio => k_is)
    (case su_Ratio_bool => k_is)
    (case su_Ratio_int => k_is)
    (case su_Ratio_list => k_is)
    (case su_Ratio_tuple => k_is)
