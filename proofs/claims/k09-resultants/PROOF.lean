import PyProof.Rows.All
import Wide.All
import OpenK.AllK
import Wide.FinOn
import HandS.ForExc
import HandS.Walk
import HandS.Wide
import HandS.TryMany
import HandS.Lambda
import HandS.Flow
import HandS.TupAny
import HandS.IsInst
import HandS.Zip
import HandS.Rev
import HandS.Style
import HandS.Conv
import HandS.TupMul
import HandS.Deep
import HandS.Iter
import KE.GoesEnum
import PyProof.MaxThree
import HandS.SortInts
import KE.DataMinMax
import KE.SortData
import HandS.Comp
import HandS.GenList
import HandS.AnyAll
import HandS.Defaults
import HandS.EndTab
import HandS.HeadWalk
import HandS.HeadHook4
import HandS.Head2
import PySem.Challenge.RW_algebrahall_k09_resultants_and_doubled_r
set_option Elab.async false
set_option linter.all false
set_option maxRecDepth 100000
set_option maxHeartbeats 4000000
set_option autoImplicit false
namespace Mini
open PySem L2

inductive D where
  | non | bl (b : Bool) | int (i : Int) | str (x : Str) | ty (n : String)
  | tup (ts : List D) | lst (ts : List D) | own (ts : List D) | frz (ts : List D)
  | cell (k : Nat)

abbrev Dl := List (List D)
abbrev Sig := List (Option D)

def NT (H : Hp) (a : Addr) : Prop := ∀ o, H a = some o → ∃ ps, o = .tbl ps
def Ext (C : List Addr) (H H' : Hp) : Prop := ∀ a o, H a = some o → a ∉ C → (∀ ps, o ≠ .tbl ps) → H' a = some o
structure Le (C : List Addr) (H : Hp) (C' : List Addr) (H' : Hp) : Prop where
  pre : ∃ more, C' = C ++ more
  new : ∀ a, a ∈ C' → a ∉ C → NT H a
  ext : Ext C H H'
theorem NT.of_none {H : Hp} {a : Addr} (h : H a = none) : NT H a := fun o e => by rw [h] at e; cases e
theorem NT.not {H : Hp} {a : Addr} {o : HO} (n : NT H a) (h : H a = some o) (hn : ∀ ps, o ≠ .tbl ps) : False := by
  obtain ⟨ps, e⟩ := n o h
  exact hn ps e
theorem NT.back {C : List Addr} {H H' : Hp} {a : Addr} (e : Ext C H H') (n : NT H' a) (ha : a ∉ C) : NT H a := fun o h => by
  apply Classical.byContradiction
  intro hn
  have hn' : ∀ ps, o ≠ .tbl ps := fun ps z => hn ⟨ps, z⟩
  exact n.not (e a o h ha hn') hn'
theorem Ext.refl (C : List Addr) (H : Hp) : Ext C H H := fun _ _ h _ _ => h
theorem Le.refl (C : List Addr) (H : Hp) : Le C H C H := ⟨⟨[], by simp⟩, fun a h n => absurd h n, Ext.refl C H⟩
theorem Le.mem {C C' : List Addr} {H H' : Hp} (l : Le C H C' H') {a : Addr} (h : a ∈ C) : a ∈ C' := by
  obtain ⟨m, e⟩ := l.pre
  rw [e]; exact List.mem_append_left _ h
theorem Le.get {C C' : List Addr} {H H' : Hp} (l : Le C H C' H') {k : Nat} {a : Addr} (h : C[k]? = some a) : C'[k]? = some a := by
  obtain ⟨m, e⟩ := l.pre
  have hk := (List.getElem?_eq_some_iff.mp h).1
  rw [e, List.getElem?_append_left hk]; exact h
theorem Le.notin {C C' : List Addr} {H H' : Hp} (l : Le C H C' H') {a : Addr} {o : HO} (h : H a = some o) (hn : ∀ ps, o ≠ .tbl ps) (ha : a ∉ C) : a ∉ C' := fun z =>
  (l.new a z ha).not h hn
theorem Le.trans {C C1 C2 : List Addr} {H H1 H2 : Hp} (l : Le C H C1 H1) (m : Le C1 H1 C2 H2) : Le C H C2 H2 := by
  refine ⟨?_, fun a h n => ?_, fun a o h n hn => ?_⟩
  · obtain ⟨x, e⟩ := l.pre
    obtain ⟨y, e'⟩ := m.pre
    exact ⟨x ++ y, by rw [e', e, List.append_assoc]⟩
  · by_cases h1 : a ∈ C1
    · exact l.new a h1 n
    · exact (m.new a h h1).back l.ext n
  · exact m.ext a o (l.ext a o h n hn) (l.notin h hn n) hn

section
def FzK (K : PySem.W.Frag) (C : List Addr) (M : Addr → Prop) (H : Hp) (a : Addr) (vs : List V) : Prop := (∃ o, H a = some (.frz o (.lst vs))) ∨ (¬ M a ∧ a ∉ C ∧ H a = some (.lst vs)) ∨
  ∃ (o : Obj) (its : Array Value) (n : Nat), K.lookup a = some o ∧ o.cls = .type "list" ∧ o.dict = none ∧ o.data = .seq its n ∧ its.size ≤ sizeLine ∧ Vals vs its.toList
theorem FzK.sq {K : PySem.W.Frag} {C : List Addr} {M : Addr → Prop} {H : Hp} {a : Addr} {vs : List V} (h : FzK K C M H a vs) : SqL K H a vs := h.elim (fun h => .inl (.inr h)) fun h => h.elim (fun h => .inl (.inl h.2.2)) .inr
variable (K : PySem.W.Frag) (C : List Addr) (M : Addr → Prop) (H : Hp)
mutual
def Rep : D → V → Prop
  | .non, v => v = .non
  | .bl b, v => v = .bl b
  | .int i, v => v = .int i
  | .str x, v => v = .str x
  | .ty n, v => v = .ty n
  | .tup ts, v => ∃ a vs, v = .ref a ∧ SqT K H a vs ∧ RepL ts vs
  | .lst ts, v => ∃ a vs, v = .ref a ∧ ¬ M a ∧ a ∉ C ∧ H a = some (.lst vs) ∧ RepL ts vs
  | .own _, _ => False
  | .frz ts, v => ∃ a vs, v = .ref a ∧ FzK K C M H a vs ∧ RepL ts vs
  | .cell k, v => ∃ a, v = .ref a ∧ C[k]? = some a
def RepL : List D → List V → Prop
  | [], vs => vs = []
  | t :: ts, vs => ∃ v r, vs = v :: r ∧ Rep t v ∧ RepL ts r
end
end

section
variable {K : PySem.W.Frag} {C C' : List Addr} {M M' : Addr → Prop} {H H' : Hp}
theorem RepL.length : ∀ {ts : List D} {vs : List V}, RepL K C M H ts vs → vs.length = ts.length
  | [], vs, h => by unfold RepL at h; rw [h]; rfl
  | t :: ts, vs, h => by
    unfold RepL at h
    obtain ⟨v, r, e, _, h2⟩ := h
    rw [e, List.length_cons, List.length_cons, RepL.length h2]
theorem RepL.get : ∀ {ts : List D} {vs : List V} {i : Nat} {t : D}, RepL K C M H ts vs → ts[i]? = some t → ∃ v, vs[i]? = some v ∧ Rep K C M H t v
  | t :: ts, vs, 0, t', h, e => by
    unfold RepL at h
    obtain ⟨v, r, rfl, h1, h2⟩ := h
    simp at e; subst e
    exact ⟨v, by simp, h1⟩
  | t :: ts, vs, i + 1, t', h, e => by
    unfold RepL at h
    obtain ⟨v, r, rfl, h1, h2⟩ := h
    obtain ⟨w, q1, q2⟩ := RepL.get (i := i) (t := t') h2 (by simpa using e)
    exact ⟨w, by simpa using q1, q2⟩
theorem repL_nil : RepL K C M H [] [] := by unfold RepL; rfl
theorem repL_cons {t : D} {ts : List D} {v : V} {vs : List V} (h : Rep K C M H t v) (h2 : RepL K C M H ts vs) : RepL K C M H (t :: ts) (v :: vs) := by
  unfold RepL; exact ⟨v, vs, rfl, h, h2⟩
theorem RepL.append : ∀ {ts us : List D} {vs ws : List V}, RepL K C M H ts vs → RepL K C M H us ws → RepL K C M H (ts ++ us) (vs ++ ws)
  | [], us, vs, ws, h, g => by unfold RepL at h; rw [h]; exact g
  | t :: ts, us, vs, ws, h, g => by
    unfold RepL at h
    obtain ⟨v, r, rfl, h1, h2⟩ := h
    exact repL_cons h1 (RepL.append h2 g)
theorem RepL.one {t : D} {v : V} (h : Rep K C M H t v) : RepL K C M H [t] [v] := repL_cons h repL_nil
theorem RepL.set : ∀ {ts : List D} {vs : List V} {t : D} {v : V} (i : Nat), RepL K C M H ts vs → Rep K C M H t v → RepL K C M H (ts.set i t) (vs.set i v)
  | [], vs, t, v, i, h, g => by unfold RepL at h; rw [h]; exact repL_nil
  | a :: ts, vs, t, v, 0, h, g => by
    unfold RepL at h
    obtain ⟨w, r, rfl, h1, h2⟩ := h
    exact repL_cons g h2
  | a :: ts, vs, t, v, i + 1, h, g => by
    unfold RepL at h
    obtain ⟨w, r, rfl, h1, h2⟩ := h
    exact repL_cons h1 (RepL.set i h2 g)
theorem RepL.take : ∀ {ts : List D} {vs : List V} (n : Nat), RepL K C M H ts vs → RepL K C M H (ts.take n) (vs.take n)
  | _, _, 0, _ => by simpa using repL_nil
  | [], vs, n + 1, h => by unfold RepL at h; rw [h]; simpa using repL_nil
  | t :: ts, vs, n + 1, h => by
    unfold RepL at h
    obtain ⟨w, r, rfl, h1, h2⟩ := h
    exact repL_cons h1 (RepL.take n h2)
theorem RepL.drop : ∀ {ts : List D} {vs : List V} (n : Nat), RepL K C M H ts vs → RepL K C M H (ts.drop n) (vs.drop n)
  | _, _, 0, h => by simpa using h
  | [], vs, n + 1, h => by unfold RepL at h; rw [h]; simpa using repL_nil
  | t :: ts, vs, n + 1, h => by
    unfold RepL at h
    obtain ⟨w, r, rfl, h1, h2⟩ := h
    simpa using RepL.drop n h2
theorem RepL.reverse : ∀ {ts : List D} {vs : List V}, RepL K C M H ts vs → RepL K C M H ts.reverse vs.reverse
  | [], vs, h => by unfold RepL at h; rw [h]; exact repL_nil
  | t :: ts, vs, h => by
    unfold RepL at h
    obtain ⟨w, r, rfl, h1, h2⟩ := h
    rw [List.reverse_cons, List.reverse_cons]
    exact (RepL.reverse h2).append (.one h1)
theorem RepL.dropLast {ts : List D} {vs : List V} (h : RepL K C M H ts vs) : RepL K C M H ts.dropLast vs.dropLast := by
  rw [List.dropLast_eq_take, List.dropLast_eq_take, h.length]
  exact h.take _

mutual
theorem Rep.sub (hm : ∀ a, M' a → M a) : ∀ (t : D) (v : V), Rep K C M H t v → Rep K C M' H t v
  | .non, v, h => by unfold Rep at h ⊢; exact h
  | .bl b, v, h => by unfold Rep at h ⊢; exact h
  | .int i, v, h => by unfold Rep at h ⊢; exact h
  | .str x, v, h => by unfold Rep at h ⊢; exact h
  | .ty x, v, h => by unfold Rep at h ⊢; exact h
  | .tup ts, v, h => by
    unfold Rep at h ⊢
    obtain ⟨a, vs, e, s, r⟩ := h
    exact ⟨a, vs, e, s, RepL.sub hm ts vs r⟩
  | .lst ts, v, h => by
    unfold Rep at h ⊢
    obtain ⟨a, vs, e, n, nc, s, r⟩ := h
    exact ⟨a, vs, e, fun z => n (hm a z), nc, s, RepL.sub hm ts vs r⟩
  | .own ts, v, h => by unfold Rep at h; exact h.elim
  | .frz ts, v, h => by
    unfold Rep at h ⊢
    obtain ⟨a, vs, e, s, r⟩ := h
    refine ⟨a, vs, e, ?_, RepL.sub hm ts vs r⟩
    rcases s with s | ⟨n, nc, s⟩ | s
    · exact .inl s
    · exact .inr (.inl ⟨fun z => n (hm a z), nc, s⟩)
    · exact .inr (.inr s)
  | .cell k, v, h => by unfold Rep at h ⊢; exact h
theorem RepL.sub (hm : ∀ a, M' a → M a) : ∀ (ts : List D) (vs : List V), RepL K C M H ts vs → RepL K C M' H ts vs
  | [], vs, h => by unfold RepL at h ⊢; exact h
  | t :: ts, vs, h => by
    unfold RepL at h ⊢
    obtain ⟨v, r, e, h1, h2⟩ := h
    exact ⟨v, r, e, Rep.sub hm t v h1, RepL.sub hm ts r h2⟩
end
def CellH (C : List Addr) (H : Hp) : Prop := ∀ a, a ∈ C → ∃ xs, H a = some (.lst xs)
mutual
theorem Rep.step (c : CellH C H) (l : Le C H C' H') (hm : ∀ a, M' a → M a ∨ NT H a) : ∀ (t : D) (v : V), Rep K C M H t v → Rep K C' M' H' t v
  | .non, v, h => by unfold Rep at h ⊢; exact h
  | .bl b, v, h => by unfold Rep at h ⊢; exact h
  | .int i, v, h => by unfold Rep at h ⊢; exact h
  | .str x, v, h => by unfold Rep at h ⊢; exact h
  | .ty n, v, h => by unfold Rep at h ⊢; exact h
  | .tup ts, v, h => by
    unfold Rep at h ⊢
    obtain ⟨a, vs, e, s, r⟩ := h
    refine ⟨a, vs, e, ?_, RepL.step c l hm ts vs r⟩
    rcases s with (s | ⟨o, s⟩) | s
    · refine .inl (.inl (l.ext a _ s (fun z => ?_) (fun ps z => by cases z)))
      obtain ⟨xs, q⟩ := c a z
      rw [s] at q; cases q
    · refine .inl (.inr ⟨o, l.ext a _ s (fun z => ?_) (fun ps z => by cases z)⟩)
      obtain ⟨xs, q⟩ := c a z
      rw [s] at q; cases q
    · exact .inr s
  | .lst ts, v, h => by
    unfold Rep at h ⊢
    obtain ⟨a, vs, e, n, nc, s, r⟩ := h
    refine ⟨a, vs, e, fun z => ?_, l.notin s (fun ps z => by cases z) nc, l.ext a _ s nc (fun ps z => by cases z), RepL.step c l hm ts vs r⟩
    rcases hm a z with z | z
    · exact n z
    · exact z.not s (fun ps z => by cases z)
  | .own ts, v, h => by
    unfold Rep at h; exact h.elim
  | .frz ts, v, h => by
    unfold Rep at h ⊢
    obtain ⟨a, vs, e, s, r⟩ := h
    refine ⟨a, vs, e, ?_, RepL.step c l hm ts vs r⟩
    rcases s with ⟨o, s⟩ | ⟨n, nc, s⟩ | s
    · refine .inl ⟨o, l.ext a _ s (fun z => ?_) (fun ps z => by cases z)⟩
      obtain ⟨xs, q⟩ := c a z
      rw [s] at q; cases q
    · refine .inr (.inl ⟨fun z => ?_, l.notin s (fun ps z => by cases z) nc, l.ext a _ s nc (fun ps z => by cases z)⟩)
      rcases hm a z with z | z
      · exact n z
      · exact z.not s (fun ps z => by cases z)
    · exact .inr (.inr s)
  | .cell k, v, h => by
    unfold Rep at h ⊢
    obtain ⟨a, e, q⟩ := h
    exact ⟨a, e, l.get q⟩
theorem RepL.step (c : CellH C H) (l : Le C H C' H') (hm : ∀ a, M' a → M a ∨ NT H a) : ∀ (ts : List D) (vs : List V), RepL K C M H ts vs → RepL K C' M' H' ts vs
  | [], vs, h => by unfold RepL at h ⊢; exact h
  | t :: ts, vs, h => by
    unfold RepL at h ⊢
    obtain ⟨v, r, e, h1, h2⟩ := h
    exact ⟨v, r, e, Rep.step c l hm t v h1, RepL.step c l hm ts r h2⟩
end
end
def RepS (K : PySem.W.Frag) (C : List Addr) (M : Addr → Prop) (H : Hp) : D → V → Prop
  | .own ts, v => ∃ a vs, v = .ref a ∧ a ∉ C ∧ H a = some (.lst vs) ∧ RepL K C M H ts vs
  | d, v => Rep K C M H d v
def RSL (K : PySem.W.Frag) (C : List Addr) (M : Addr → Prop) (H : Hp) : List D → List V → Prop
  | [], vs => vs = []
  | t :: ts, vs => ∃ v r, vs = v :: r ∧ RepS K C M H t v ∧ RSL K C M H ts r
section
variable {K : PySem.W.Frag} {C C' : List Addr} {M M' : Addr → Prop} {H H' : Hp}
theorem RepS.step (c : CellH C H) (l : Le C H C' H') (hm : ∀ a, M' a → M a ∨ NT H a) {t : D} {v : V} (h : RepS K C M H t v) : RepS K C' M' H' t v := by
  cases t
  case own ts =>
    obtain ⟨a, vs, e, nc, s, r⟩ := h
    exact ⟨a, vs, e, l.notin s (fun ps z => by cases z) nc, l.ext a _ s nc (fun ps z => by cases z), RepL.step c l hm ts vs r⟩
  all_goals exact Rep.step c l hm _ _ h
theorem RSL.step (c : CellH C H) (l : Le C H C' H') (hm : ∀ a, M' a → M a ∨ NT H a) : ∀ {ts : List D} {vs : List V}, RSL K C M H ts vs → RSL K C' M' H' ts vs
  | [], vs, h => h
  | t :: ts, vs, ⟨v, r, e, h1, h2⟩ => ⟨v, r, e, h1.step c l hm, RSL.step c l hm h2⟩
end
end Mini

namespace Mini
open PySem L2

inductive R (α : Type) where
  | ok (a : α) (d : Dl) | ex (c : Str) (p : List D) (d : Dl) | bad
def R.bind {α β : Type} (x : R α) (f : α → Dl → R β) : R β := match x with
  | .ok a d => f a d
  | .ex c p d => .ex c p d
  | .bad => .bad
def R.noex {α : Type} (x : R α) : R α := match x with
  | .ok a d => .ok a d
  | _ => .bad
def R.of {α : Type} (o : Option α) (d : Dl) : R α := match o with
  | some a => .ok a d
  | none => .bad

inductive G where
  | name (i : Nat) | tup (is : List Nat)
inductive IK where
  | seq | rng1 | rng2 | rng3 | zip | enum | rev
inductive Blt where
  | abs | len | int | tuple | list | max2 | min2 | sum | str | isi | bool | max3 | maxl | minl | minr | sorted
inductive E where
  | var (i : Nat) | int (i : Int) | bl (b : Bool) | non | str (s : Str) | ty (n : String) | glob (g : Nat)
  | bin (o : Operator) (a b : E) | neg (a : E)
  | cmp (o : CmpOp) (a b : E) | chain (o o' : CmpOp) (a b c : E)
  | and (a b : E) | or (a b : E) | not (a : E) | ite (c a b : E)
  | nil | cons (a b : E) | tup (a : E) | lst (a : E)
  | idx (a i : E) | slc (a lo hi : E) | np | cnt (a b : E)
  | call (f : Nat) (a : E) | blt (b : Blt) (a : E)
  | lc (vs : List Nat) (g : G) (k : IK) (it c e : E)
  | gx (b : Bool) (vs : List Nat) (g : G) (k : IK) (it c e : E)
  | newc (a : E) | scope (a : E) | lend (i : Nat) (a : E) | told (hs : List (Str × Str)) (a : E)
inductive S where
  | skip | seq (a b : S) | pass | expr (e : E)
  | asg (g : G) (e : E) | asgO (i : Nat) (e : E) | par (is : List (Nat × Bool)) (a : E) | asgT (is : List (Nat × Bool)) (a : E)
  | setx (o ix e : E) | aug (i : Nat) (o : Operator) (e : E)
  | app (i : Nat) (e : E) | ext (i : Nat) (e : E) | pop (i : Nat)
  | ite (c : E) (a b : S) | whl (c : E) (b : S) | for (g : G) (k : IK) (it : E) (b : S)
  | ret (e : E) | retN | rais (c : Str) | raisP (c : Str) (e : E) | brk | cont
  | frz (i : Nat) (s : S)

def isOwn : D → Bool
  | .own _ => true
  | _ => false
def demote : D → D
  | .own ts => .lst ts
  | d => d
mutual
def noLst : D → Bool
  | .lst _ => false
  | .own _ => false
  | .frz _ => false
  | .tup ts => noLstL ts
  | _ => true
def noLstL : List D → Bool
  | [] => true
  | t :: ts => noLst t && noLstL ts
end
mutual
def noCell : D → Bool
  | .cell _ => false
  | .tup ts => noCellL ts
  | .lst ts => noCellL ts
  | .own ts => noCellL ts
  | .frz ts => noCellL ts
  | _ => true
def noCellL : List D → Bool
  | [] => true
  | t :: ts => noCell t && noCellL ts
end
def line : Nat := 16777216
def big : Nat := 2 ^ 8990
def truthD : D → Option Bool
  | .non => some false
  | .bl b => some b
  | .int i => some (i != 0)
  | .str s => if s.length ≤ line then some ((s.length : Int) != 0) else none
  | .tup ts => some (!ts.isEmpty)
  | .lst ts => some (!ts.isEmpty)
  | .own ts => some (!ts.isEmpty)
  | .frz ts => some (!ts.isEmpty)
  | _ => none
def small (i : Int) : Bool := decide (-(2 ^ 64) < i) && decide (i < 2 ^ 64)
def mulOk (i j : Int) : Bool := small i || small j || (decide (i.natAbs < big) && decide (j.natAbs < big))
def divOk (j : Int) : Bool := decide (j ≠ 0) && decide (j.natAbs < big)
def powOk (i j : Int) : Bool := decide (0 ≤ j) && decide (j ≤ 1000000) && small i
def repOk (n : Nat) (j : Int) : Bool := decide (-(2 ^ 63) ≤ j) && decide (j < 2 ^ 63) && decide (n * j.toNat ≤ line)
def mlst : D → Option (List D)
  | .lst ts => some ts
  | .own ts => some ts
  | _ => none
def binD : Operator → D → D → Option D
  | .Add, .int i, .int j => some (.int (i + j))
  | .Add, .str i, .str j => if i.length + j.length ≤ line then some (.str (i ++ j)) else none
  | .Add, .tup a, .tup b => if a.length + b.length ≤ line then some (.tup (a ++ b)) else none
  | .Add, .lst a, .lst b => if a.length + b.length ≤ line then some (.lst (a ++ b)) else none
  | .Add, .own a, .lst b => if a.length + b.length ≤ line then some (.lst (a ++ b)) else none
  | .Add, .lst a, .own b => if a.length + b.length ≤ line then some (.lst (a ++ b)) else none
  | .Add, .own a, .own b => if a.length + b.length ≤ line then some (.lst (a ++ b)) else none
  | .Sub, .int i, .int j => some (.int (i - j))
  | .Sub, .bl a, .bl b => some (.int ((if a = true then (1 : Int) else 0) - (if b = true then (1 : Int) else 0)))
  | .Mult, .int i, .int j => if mulOk i j then some (.int (i * j)) else none
  | .Mult, .tup a, .int j => if !a.isEmpty && decide (-1000 ≤ j) && decide (j ≤ 1000) && decide (a.length ≤ 1000) then some (.tup (List.replicate j.toNat a).flatten) else none
  | .Mult, .lst a, .int j => if repOk a.length j then some (.lst (List.replicate j.toNat a).flatten) else none
  | .FloorDiv, .int i, .int j => if divOk j then some (.int (i.fdiv j)) else none
  | .Mod, .int i, .int j => if j = 0 then none else some (.int (i.fmod j))
  | .Pow, .int i, .int j => if powOk i j then some (.int (i ^ j.toNat)) else none
  | _, _, _ => none
def augD : Operator → D → D → Option D
  | .Add, .int i, .int j => some (.int (i + j))
  | .Add, .str i, .str j => if i.length + j.length ≤ line then some (.str (i ++ j)) else none
  | .Sub, .int i, .int j => some (.int (i - j))
  | .Mult, .int i, .int j => if mulOk i j then some (.int (i * j)) else none
  | .FloorDiv, .int i, .int j => if divOk j then some (.int (i.fdiv j)) else none
  | .Mod, .int i, .int j => if j = 0 then none else some (.int (i.fmod j))
  | _, _, _ => none
def negD : D → Option D
  | .int i => some (.int (-i))
  | _ => none
mutual
def dat : D → Option PyData
  | .non => some .none
  | .bl b => some (.bool b)
  | .int i => some (.int i)
  | .str x => some (.str x)
  | .tup ts => (datL ts).map .tuple
  | .lst ts => (datL ts).map .list
  | .own ts => (datL ts).map .list
  | .frz ts => (datL ts).map .list
  | _ => none
def datL : List D → Option (List PyData)
  | [] => some []
  | t :: ts => match dat t, datL ts with
    | some d, some ds => some (d :: ds)
    | _, _ => none
end
def eqD (a b : D) : Option Bool := match dat a, dat b with
  | some d, some e => if SeqAt.shaped d && SeqAt.shaped e then some (PyData.eqv d e) else none
  | _, _ => none
def inD (a b : D) : Option Bool := match dat a, dat b with
  | some d, some (.list ds) => if SeqAt.shaped d && SeqAt.shaped (.list ds) then some (ds.any fun z => PyData.eqv z d) else none
  | some d, some (.tuple ds) => if SeqAt.shaped d && SeqAt.shaped (.tuple ds) then some (ds.any fun z => PyData.eqv z d) else none
  | _, _ => none
def cntD (a b : D) : Option D := match dat a, dat b with
  | some (.list ds), some d => if SeqAt.shaped (.list ds) && SeqAt.shaped d then some (.int (ds.countP fun z => PyData.eqv z d : Nat)) else none
  | _, _ => none
def isNonD : D → Bool
  | .non => true
  | _ => false
def cmpD : CmpOp → D → D → Option Bool
  | .Eq, a, b => eqD a b
  | .NotEq, a, b => (eqD a b).map (!·)
  | .Lt, .int i, .int j => some (decide (i < j))
  | .LtE, .int i, .int j => some (decide (i ≤ j))
  | .Gt, .int i, .int j => some (decide (j < i))
  | .GtE, .int i, .int j => some (decide (j ≤ i))
  | .In, a, b => inD a b
  | .NotIn, a, b => (inD a b).map (!·)
  | .Is, a, .non => some (isNonD a)
  | .IsNot, a, .non => some (!isNonD a)
  | _, _, _ => none
def seqD (δ : Dl) : D → Option (List D)
  | .tup ts => some ts
  | .lst ts => some ts
  | .own ts => some ts
  | .frz ts => some ts
  | .cell k => δ[k]?
  | _ => none
def idxD (δ : Dl) (a i : D) : Option D := match a, i with
  | .str z, .int i => if z.length ≤ line then (atI z.cps.toList i).map fun c => .str ⟨#[c]⟩ else none
  | a, .int i => (seqD δ a).bind fun ts => atI ts i
  | _, _ => none
def cutD (xs : List D) (lo hi : Option Int) : List D := (xs.drop (HT.sIx xs.length 0 lo)).take (HT.sIx xs.length xs.length hi - HT.sIx xs.length 0 lo)
def slcD (δ : Dl) (a : D) (lo hi : Option Int) : Option D := match a with
  | .tup ts => some (.tup (cutD ts lo hi))
  | .lst ts => some (.lst (cutD ts lo hi))
  | .own ts => some (.lst (cutD ts lo hi))
  | .frz ts => some (.lst (cutD ts lo hi))
  | .cell k => (δ[k]?).map fun ts => .lst (cutD ts lo hi)
  | _ => none
def tyName : D → Option String
  | .non => some "NoneType"
  | .bl _ => some "bool"
  | .int _ => some "int"
  | .str _ => some "str"
  | .tup _ => some "tuple"
  | .lst _ => some "list"
  | .own _ => some "list"
  | _ => none
def isiT (a b : String) : Option Bool :=
  if ["NoneType", "bool", "int", "str", "tuple", "list"].contains a && ["bool", "int", "str", "tuple", "list"].contains b then some (a == b || (a == "bool" && b == "int")) else none
def intsOf : List D → Option (List Int)
  | [] => some []
  | .int i :: ts => (intsOf ts).map (i :: ·)
  | _ => none
def rowsOf : List D → Option (List (List Int))
  | [] => some []
  | .tup ts :: r => match intsOf ts, rowsOf r with
    | some n, some ns => some (n :: ns)
    | _, _ => none
  | _ => none
def minRow (r : List Int) (rs : List (List Int)) : List Int := rs.foldl (fun a y => if y < a then y else a) r
def minRows : List (List Int) → Option D
  | [] => none
  | r :: rs => some (.tup ((minRow r rs).map .int))
def sortI (ns : List Int) : List Int := ns.mergeSort fun a b => decide (a ≤ b)
def bltD (δ : Dl) : Blt → List D → Option D
  | .abs, [.int i] => some (.int (if i < 0 then -i else i))
  | .len, [.str z] => if z.length ≤ line then some (.int z.length) else none
  | .len, [a] => (seqD δ a).map fun ts => .int ts.length
  | .int, [.int i] => some (.int i)
  | .int, [.bl b] => some (.int (if b then 1 else 0))
  | .bool, [.int i] => some (.bl (i != 0))
  | .bool, [.bl b] => some (.bl b)
  | .tuple, [a] => (seqD δ a).map .tup
  | .list, [a] => (seqD δ a).map .lst
  | .max2, [.int i, .int j] => some (.int (if j > i then j else i))
  | .min2, [.int i, .int j] => some (.int (if j < i then j else i))
  | .max3, [.int i, .int j, .int k] => some (.int (max i (max j k)))
  | .sum, [.lst ts] => (intsOf ts).map fun ns => .int ns.sum
  | .maxl, [.lst ts] => (intsOf ts).bind fun ns => ns.max?.map .int
  | .minl, [.lst ts] => (intsOf ts).bind fun ns => ns.min?.map .int
  | .minr, [.lst ts] => (rowsOf ts).bind minRows
  | .sorted, [.lst ts] => (intsOf ts).map fun ns => .lst ((sortI ns).map .int)
  | .sorted, [.own ts] => (intsOf ts).map fun ns => .lst ((sortI ns).map .int)
  | .str, [.int i] => if decide (i.natAbs < 2 ^ 1000) then some (.str (toString i)) else none
  | .isi, [a, .ty n] => (tyName a).bind fun t => (isiT t n).map .bl
  | _, _ => none
def enumFrom : Nat → List D → List D
  | _, [] => []
  | k, t :: ts => .tup [.int k, t] :: enumFrom (k + 1) ts
def rngFrom (lo c : Int) : Nat → List D
  | 0 => []
  | n + 1 => .int lo :: rngFrom (lo + c) c n
def rOk (i : Int) : Bool := decide (-(2 ^ 62) ≤ i) && decide (i < 2 ^ 62)
def zipD (ta tb : List D) : List D := (ta.zip tb).map fun p => .tup [p.1, p.2]
def itemsD (δ : Dl) : IK → List D → Option (List D)
  | .seq, [.tup ts] => some ts
  | .seq, [.lst ts] => some ts
  | .seq, [.frz ts] => some ts
  | .rng1, [.int n] => if rOk n then some (rngFrom 0 1 n.toNat) else none
  | .rng2, [.int a, .int b] => if rOk a && rOk b then some (rngFrom a 1 (b - a).toNat) else none
  | .rng3, [.int a, .int b, .int c] => if rOk a && rOk b && decide (c = -1) then some (rngFrom a (-1) (a - b).toNat) else none
  | .zip, [.tup a, .tup b] => some (zipD a b)
  | .zip, [.lst a, .lst b] => some (zipD a b)
  | .enum, [.lst a] => some (enumFrom 0 a)
  | .enum, [.tup a] => some (enumFrom 0 a)
  | .rev, [.lst a] => some a.reverse
  | .rev, [.tup a] => some a.reverse
  | _, _ => none
def setMany : List Nat → List D → Sig → Option Sig
  | [], [], σ => some σ
  | i :: is, d :: ds, σ => if isOwn d then none else setMany is ds (σ.set i (some d))
  | _, _, _ => none
def setG : G → D → Sig → Option Sig
  | .name i, d, σ => if isOwn d then none else some (σ.set i (some d))
  | .tup is, .tup ds, σ => setMany is ds σ
  | .tup is, .lst ds, σ => setMany is ds σ
  | _, _, _ => none
def gSlots : G → List Nat
  | .name i => [i]
  | .tup is => is
def wipeD (σ : Sig) : List Nat → Sig
  | [] => σ
  | v :: vs => (wipeD σ vs).set v none
def isFresh : E → Bool
  | .lst _ => true
  | .lc .. => true
  | .slc .. => true
  | .blt .list _ => true
  | .bin .Add _ _ => true
  | .bin .Mult _ _ => true
  | .lend _ a => isFresh a
  | _ => false

def lcGo (g : G) (c : Sig → Dl → R Bool) (e : Sig → Dl → R D) (σw : Sig) : List D → Dl → R (List D)
  | [], δ => .ok [] δ
  | x :: xs, δ => match setG g x σw with
    | none => .bad
    | some σ2 => (c σ2 δ).noex.bind fun b δ => if b then (e σ2 δ).noex.bind fun y δ => if isOwn y then .bad else (lcGo g c e σw xs δ).bind fun ys δ => .ok (y :: ys) δ else lcGo g c e σw xs δ

def gxGo (b : Bool) (g : G) (c : Sig → Dl → R Bool) (e : Sig → Dl → R D) (σw : Sig) : List D → Dl → R Bool
  | [], δ => .ok (!b) δ
  | x :: xs, δ => match setG g x σw with
    | none => .bad
    | some σ2 => (c σ2 δ).noex.bind fun k δ => if k then (e σ2 δ).noex.bind fun y δ => (match y with
      | .bl r => if r = b then .ok b δ else gxGo b g c e σw xs δ
      | _ => .bad) else gxGo b g c e σw xs δ
structure Ev where
  v : Sig → Dl → R D
  t : Sig → Dl → R Bool
  o : Sig → Dl → R (Option Int)
  a : Sig → Dl → R (List D)
def intOf : D → Option Int
  | .int i => some i
  | _ => none
def Ev.val (v : Sig → Dl → R D) : Ev where
  v := v
  t := fun σ δ => (v σ δ).bind fun x δ => R.of (truthD x) δ
  o := fun σ δ => (v σ δ).bind fun x δ => (R.of (intOf x) δ).bind fun i δ => .ok (some i) δ
  a := fun _ _ => .bad
def Ev.tst (v : Sig → Dl → R D) (t : Sig → Dl → R Bool) : Ev where
  v := v
  t := t
  o := fun _ _ => .bad
  a := fun _ _ => .bad
def Ev.arg (a : Sig → Dl → R (List D)) : Ev where
  v := fun _ _ => .bad
  t := fun _ _ => .bad
  o := fun _ _ => .bad
  a := a
def Ev.ofB (b : Sig → Dl → R Bool) : Ev where
  v := fun σ δ => (b σ δ).bind fun k δ => .ok (.bl k) δ
  t := b
  o := fun _ _ => .bad
  a := fun _ _ => .bad

structure Par where
  F : Nat → List D → Dl → R D
  G : Nat → D
  X : List Str
def findH (X : List Str) (c : Str) : List (Str × Str) → Option Str
  | [] => none
  | (c', s) :: r => if X.contains c' then (if c = c' then some s else findH X c r) else none
section
variable (P : Par)
def callE (f : Nat) (ds : List D) (δ : Dl) : R D := match P.F f (ds.map demote) δ with
  | .ok d δ' => if isOwn d || ds.any isOwn && !(noLst d && δ'.all noLstL) then .bad else .ok d δ'
  | .ex c p δ' => if ds.any isOwn && !(noLstL p && δ'.all noLstL) then .bad else .ex c p δ'
  | .bad => .bad
def scopeE (n : Nat) : R D → R D
  | .ok d δ' => if noCell d && (δ'.take n).all noCellL then .ok d (δ'.take n) else .bad
  | .ex c p δ' => if noCellL p && (δ'.take n).all noCellL then .ex c p (δ'.take n) else .bad
  | .bad => .bad
def toldE (X : List Str) (hs : List (Str × Str)) : R D → R D
  | .ok d δ => if isOwn d then .bad else .ok d δ
  | .ex c _ δ => match findH X c hs with
    | some s => .ok (.str s) δ
    | none => .bad
  | .bad => .bad
def ownAt (σ : Sig) (i : Nat) : Option (List D) := match σ[i]? with
  | some (some (.own ts)) => some ts
  | _ => none
def lendOk (fr : Bool) (d : D) : Bool := noLst d || (fr && match d with
  | .lst ys => noLstL ys
  | _ => false)
def lendE (fr : Bool) : R D → R D
  | .ok d δ' => if lendOk fr d && δ'.all noLstL then .ok d δ' else .bad
  | .ex c p δ' => if noLstL p && δ'.all noLstL then .ex c p δ' else .bad
  | .bad => .bad
def lendT : R Bool → R Bool
  | .ok d δ' => if δ'.all noLstL then .ok d δ' else .bad
  | .ex c p δ' => if noLstL p && δ'.all noLstL then .ex c p δ' else .bad
  | .bad => .bad
def seqE (k : List D → D) (ds : List D) (δ : Dl) : R D := if ds.any isOwn || decide (1000 < ds.length) then .bad else .ok (k ds) δ
def evA' : E → Ev
  | .var i => .val fun σ δ => match σ[i]? with
    | some (some d) => .ok d δ
    | _ => .bad
  | .int i => .val fun _ δ => .ok (.int i) δ
  | .bl b => .val fun _ δ => .ok (.bl b) δ
  | .non => .val fun _ δ => .ok .non δ
  | .str s => .val fun _ δ => .ok (.str s) δ
  | .ty n => .val fun _ δ => .ok (.ty n) δ
  | .glob g => .val fun _ δ => .ok (P.G g) δ
  | .bin o a b => .val fun σ δ => ((evA' a).v σ δ).bind fun x δ => ((evA' b).v σ δ).bind fun y δ => R.of (binD o x y) δ
  | .neg a => .val fun σ δ => ((evA' a).v σ δ).bind fun x δ => R.of (negD x) δ
  | .cmp o a b => .ofB fun σ δ => ((evA' a).v σ δ).bind fun x δ => ((evA' b).v σ δ).bind fun y δ => R.of (cmpD o x y) δ
  | .chain o o' a b c => .ofB fun σ δ => ((evA' a).v σ δ).bind fun x δ => ((evA' b).v σ δ).bind fun y δ => (R.of (cmpD o x y) δ).bind fun k δ =>
      if k then ((evA' c).v σ δ).bind fun z δ => R.of (cmpD o' y z) δ else .ok false δ
  | .and a b => .tst (fun σ δ => ((evA' a).v σ δ).bind fun x δ => (R.of (truthD x) δ).bind fun k δ => if k then (evA' b).v σ δ else .ok x δ)
      fun σ δ => ((evA' a).t σ δ).bind fun k δ => if k then (evA' b).t σ δ else .ok false δ
  | .or a b => .tst (fun σ δ => ((evA' a).v σ δ).bind fun x δ => (R.of (truthD x) δ).bind fun k δ => if k then .ok x δ else (evA' b).v σ δ)
      fun σ δ => ((evA' a).t σ δ).bind fun k δ => if k then .ok true δ else (evA' b).t σ δ
  | .not a => .tst (fun σ δ => ((evA' a).v σ δ).bind fun x δ => (R.of (truthD x) δ).bind fun k δ => .ok (.bl (!k)) δ)
      fun σ δ => ((evA' a).t σ δ).bind fun k δ => .ok (!k) δ
  | .ite c a b => .tst (fun σ δ => ((evA' c).t σ δ).bind fun k δ => if k then (evA' a).v σ δ else (evA' b).v σ δ) fun _ _ => .bad
  | .tup a => .val fun σ δ => ((evA' a).a σ δ).bind (seqE .tup)
  | .lst a => .val fun σ δ => ((evA' a).a σ δ).bind (seqE .lst)
  | .idx a i => .val fun σ δ => ((evA' a).v σ δ).bind fun x δ => ((evA' i).v σ δ).bind fun y δ => R.of (idxD δ x y) δ
  | .cnt a b => .val fun σ δ => ((evA' a).v σ δ).bind fun x δ => if (mlst x).isSome then ((evA' b).v σ δ).bind fun y δ => R.of (cntD x y) δ else .bad
  | .slc a lo hi => .val fun σ δ => ((evA' a).v σ δ).bind fun x δ => ((evA' lo).o σ δ).bind fun l δ => ((evA' hi).o σ δ).bind fun h δ => R.of (slcD δ x l h) δ
  | .call f a => .val fun σ δ => ((evA' a).a σ δ).bind (callE P f)
  | .blt b a => .val fun σ δ => ((evA' a).a σ δ).bind fun ds δ => R.of (bltD δ b ds) δ
  | .lc vs g k it c e => .val fun σ δ => ((evA' it).a σ δ).bind fun ds δ => match itemsD δ k ds with
    | none => .bad
    | some xs => if decide (1000000 < xs.length) || !((gSlots g).all fun i => vs.contains i) then .bad else
      (lcGo g (evA' c).t (evA' e).v (wipeD σ vs) xs δ).bind fun ys δ => .ok (.lst ys) δ
  | .gx b vs g k it c e => .val fun σ δ => ((evA' it).a σ δ).bind fun ds δ => match itemsD δ k ds with
    | none => .bad
    | some xs => if decide (1000000 < xs.length) || !((gSlots g).all fun i => vs.contains i) then .bad else
      (gxGo b g (evA' c).t (evA' e).v (wipeD σ vs) xs δ).bind fun r δ => .ok (.bl r) δ
  | .newc a => .tst (fun σ δ => if isFresh a then ((evA' a).v σ δ).bind fun d δ => match d with
      | .lst ts => .ok (.cell δ.length) (δ ++ [ts])
      | _ => .bad
    else .bad) fun _ _ => .bad
  | .lend i a => .tst (fun σ δ => match ownAt σ i with
      | some ts => lendE (isFresh a) ((evA' a).v (σ.set i (some (.lst ts))) δ)
      | none => .bad) fun σ δ => match ownAt σ i with
      | some ts => lendT ((evA' a).t (σ.set i (some (.lst ts))) δ)
      | none => .bad
  | .scope a => .tst (fun σ δ => scopeE δ.length ((evA' a).v σ δ)) fun _ _ => .bad
  | .told hs a => .val fun σ δ => toldE P.X hs ((evA' a).v σ δ)
  | .nil => .arg fun _ δ => .ok [] δ
  | .cons a b => .arg fun σ δ => ((evA' a).v σ δ).bind fun x δ => ((evA' b).a σ δ).bind fun xs δ => .ok (x :: xs) δ
  | .np => { v := fun _ _ => .bad, t := fun _ δ => .ok true δ, o := fun _ δ => .ok none δ, a := fun _ _ => .bad }
termination_by structural e => e

inductive O where
  | nx (σ : Sig) (δ : Dl) | rt (d : D) (δ : Dl) | bk (σ : Sig) (δ : Dl) | ct (σ : Sig) (δ : Dl) | ex (c : Str) (p : List D) (σ : Sig) (δ : Dl) | bad
def whlGo (c : Sig → Dl → R Bool) (b : Sig → Dl → O) : Nat → Sig → Dl → O
  | 0, _, _ => .bad
  | n + 1, σ, δ => match c σ δ with
    | .ok k δ => if k then (match b σ δ with
      | .nx σ δ => whlGo c b n σ δ
      | .ct σ δ => whlGo c b n σ δ
      | .bk σ δ => .nx σ δ
      | o => o) else .nx σ δ
    | .ex c p δ => .ex c p σ δ
    | .bad => .bad
def forGo (g : G) (b : Sig → Dl → O) : List D → Sig → Dl → O
  | [], σ, δ => .nx σ δ
  | x :: xs, σ, δ => match setG g x σ with
    | none => .bad
    | some σ => match b σ δ with
      | .nx σ δ => forGo g b xs σ δ
      | .ct σ δ => forGo g b xs σ δ
      | .bk σ δ => .nx σ δ
      | o => o
def R.then {α : Type} (x : R α) (σ : Sig) (f : α → Dl → O) : O := match x with
  | .ok a δ => f a δ
  | .ex c p δ => .ex c p σ δ
  | .bad => .bad
def O.next (o : O) (f : Sig → Dl → O) : O := match o with
  | .nx σ δ => f σ δ
  | o => o
def isVar : E → Bool
  | .var _ => true
  | _ => false
def parGo (σ₀ : Sig) : List (Nat × Bool) → E → Sig → Dl → O
  | [], .nil, σ, δ => .nx σ δ
  | (i, w) :: is, .cons a b, σ, δ => R.then ((evA' P a).v σ₀ δ) σ₀ fun d δ => match w, d with
    | false, d => if isOwn d then .bad else parGo σ₀ is b (σ.set i (some d)) δ
    | true, .lst ts => if isFresh a then parGo σ₀ is b (σ.set i (some (.own ts))) δ else .bad
    | true, _ => .bad
  | _, _, _, _ => .bad
def evS (n : Nat) : S → Sig → Dl → O
  | .skip, σ, δ => .nx σ δ
  | .pass, σ, δ => .nx σ δ
  | .seq a b, σ, δ => (evS n a σ δ).next fun σ δ => evS n b σ δ
  | .expr e, σ, δ => R.then ((evA' P e).v σ δ) σ fun _ δ => .nx σ δ
  | .asg g e, σ, δ => R.then ((evA' P e).v σ δ) σ fun d δ => match setG g d σ with
    | some σ => .nx σ δ
    | none => .bad
  | .asgO i e, σ, δ => R.then ((evA' P e).v σ δ) σ fun d δ => match d with
    | .lst ts => if isFresh e then .nx (σ.set i (some (.own ts))) δ else .bad
    | _ => .bad
  | .par is a, σ, δ => if decide ((is.map (·.1)).Nodup) then parGo P σ is a σ δ else .bad
  | .asgT is a, σ, δ => if decide ((is.map (·.1)).Nodup) && decide (is.length ≤ 1000) then parGo P σ is a σ δ else .bad
  | .setx o ix e, σ, δ => match o with
    | .var i => match σ[i]? with
      | some (some (.own ts)) => R.then ((evA' P e).v σ δ) σ fun d δ => R.then ((evA' P ix).v σ δ) σ fun x δ => match intOf x with
        | some z => (match ixN ts.length z with
          | some j => if isOwn d then .bad else .nx (σ.set i (some (.own (ts.set j d)))) δ
          | none => .bad)
        | none => .bad
      | some (some (.cell k)) => R.then ((evA' P e).v σ δ) σ fun d δ => R.then ((evA' P ix).v σ δ) σ fun x δ => match intOf x, δ[k]? with
        | some z, some ts => (match ixN ts.length z with
          | some j => if isOwn d then .bad else .nx σ (δ.set k (ts.set j d))
          | none => .bad)
        | _, _ => .bad
      | _ => .bad
    | _ => .bad
  | .aug i o e, σ, δ => R.then ((evA' P (.var i)).v σ δ) σ fun x δ => R.then ((evA' P e).v σ δ) σ fun y δ => match augD o x y with
    | some z => .nx (σ.set i (some z)) δ
    | none => .bad
  | .app i e, σ, δ => match ownAt σ i with
    | some ts => R.then ((evA' P e).v σ δ) σ fun d δ => if isOwn d || decide (1000000 < ts.length) then .bad else .nx (σ.set i (some (.own (ts ++ [d])))) δ
    | none => .bad
  | .ext i e, σ, δ => match ownAt σ i with
    | some ts => R.then ((evA' P e).v σ δ) σ fun d δ => match d with
      | .lst us => if decide (1000000 < ts.length + us.length) then .bad else .nx (σ.set i (some (.own (ts ++ us)))) δ
      | _ => .bad
    | none => .bad
  | .pop i, σ, δ => match ownAt σ i with
    | some ts => if ts.isEmpty then .bad else .nx (σ.set i (some (.own ts.dropLast))) δ
    | none => .bad
  | .ite c a b, σ, δ => R.then ((evA' P c).t σ δ) σ fun k δ => if k then evS n a σ δ else evS n b σ δ
  | .whl c b, σ, δ => whlGo (evA' P c).t (evS n b) n σ δ
  | .for g k it b, σ, δ => R.then ((evA' P it).a σ δ) σ fun ds δ => match itemsD δ k ds with
    | some xs => forGo g (evS n b) xs σ δ
    | none => .bad
  | .ret e, σ, δ => R.then ((evA' P e).v σ δ) σ fun d δ => if isOwn d then (if isVar e then .rt (demote d) δ else .bad) else .rt d δ
  | .retN, _, δ => .rt .non δ
  | .rais c, σ, δ => if P.X.contains c then .ex c [] σ δ else .bad
  | .raisP c e, σ, δ => R.then ((evA' P e).v σ δ) σ fun d δ => if isOwn d || !P.X.contains c then .bad else .ex c [d] σ δ
  | .brk, σ, δ => .bk σ δ
  | .cont, σ, δ => .ct σ δ
  | .frz i s, σ, δ => match ownAt σ i with
    | some ts => evS n s (σ.set i (some (.lst ts))) δ
    | none => .bad
termination_by structural s => s
def runF (n k w : Nat) (s : S) (ds : List D) (δ : Dl) : R D := if ds.length = k then (match evS P n s (ds.map some ++ List.replicate (w - ds.length) none) δ with
  | .nx _ δ => .ok .non δ
  | .rt d δ => if isOwn d then .bad else .ok d δ
  | .ex c p _ δ => .ex c p δ
  | _ => .bad) else .bad
end
end Mini

namespace L2
open PySem PySem.Spec PyProof.Rows
theorem tuple_mul1 (l : Addr) (items : Array Value) (n : Nat) (dd : Option Addr) (sl : Array (Option Value)) (u : Tok) :
    Meets (Builtin.«tuple.__mul__» ⟨[.ref l, .int 1 u], []⟩) (fun _ R s => s.heap.get? l = some { cls := .type "tuple", dict := dd, data := .seq items n, slots := sl } ∧
      R (.ok (.ret (Value.ref l))) s) :=
  .of_wp fun prog w A R s h => by
    obtain ⟨hp, g, d, tk, os⟩ := s
    obtain ⟨hl, h⟩ := h
    have f1 := AutoSeq1.idx_int
    wp_walk using wpAny_loadPart' hl
    repeat (first
      | (refine wpAny_ite_false (by decide) ?_; wp_walk using wpAny_loadPart' hl)
      | (refine wpAny_ite_true (by simp) ?_; wp_walk using wpAny_loadPart' hl))
    exact ⟨_, rfl, h⟩
theorem tuple_mul0 (l : Addr) (items : Array Value) (n : Nat) (dd : Option Addr) (sl : Array (Option Value)) (x : Int) (u : Tok) (c0 : (decide (x < -(2 ^ 63)) || decide (x ≥ 2 ^ 63)) = false) (c1 : (items.isEmpty || x == 1) = false) (c2 : (decide (x ≤ 0) || items.isEmpty) = true) :
    Meets (Builtin.«tuple.__mul__» ⟨[.ref l, .int x u], []⟩) (fun _ R s => s.heap.get? l = some { cls := .type "tuple", dict := dd, data := .seq items n, slots := sl } ∧
      R (.ok (.ret (Value.ref s.heap.objs.size))) { s with heap := s.heap.push { cls := Value.type "tuple", data := Data.seq #[] }, toks := s.toks }) :=
  .of_wp fun prog w A R s h => by
    obtain ⟨hp, g, d, tk, os⟩ := s
    obtain ⟨hl, h⟩ := h
    have f1 := AutoSeq1.idx_int
    wp_walk using wpAny_loadPart' hl
    repeat (first
      | (refine wpAny_ite_false (decide_eq_false (by rw [c0]; exact Bool.false_ne_true)) ?_; wp_walk using wpAny_loadPart' hl)
      | (refine wpAny_ite_false (decide_eq_false (by rw [c1]; exact Bool.false_ne_true)) ?_; wp_walk using wpAny_loadPart' hl)
      | (refine wpAny_ite_true (decide_eq_true (by rw [c2])) ?_; wp_walk using wpAny_loadPart' hl))
    exact ⟨_, rfl, h⟩

def rRepTA (K : PySem.W.Frag) : R2 := fun x y H Q => ∃ l k xs, x = .ref l ∧ y = .int k ∧ SqT K H l xs ∧ xs ≠ [] ∧ -1000 ≤ k ∧ k ≤ 1000 ∧ xs.length ≤ 1000 ∧ (k = 1 → Q (.ref l) H) ∧ (k ≠ 1 → ∀ p, H p = none → Q (.ref p) (upd H p (.tup (List.replicate k.toNat xs).flatten)))
theorem op_repTA {X : Cx} : OpR X (binaryOp .Mult) (rRepTA X.K) := by
  intro pins s σ H x y v u Q I rx ry h
  obtain ⟨l, k, xs, ex, ey, hT, hne, h1, h2, hz, q1, q2⟩ := h
  by_cases k2 : 2 ≤ k
  · exact op_repT pins s σ H x y v u Q I rx ry ⟨l, k, xs, ex, ey, hT, hne, k2, h2, hz, q2 (by omega)⟩
  subst ex ey
  cases rx
  obtain ⟨t, rfl⟩ := ry
  obtain ⟨its, r, ⟨⟨cls, dd, data, sl⟩, ho, hc, n, hd⟩, hs⟩ := I.tuple hT
  simp only at hc hd
  subst hc hd
  have hle : its.length = xs.length := r.length.symm
  have hn : its ≠ [] := fun e => hne (by
    rw [e] at hle
    exact List.eq_nil_of_length_eq_zero hle.symm)
  have hi : its.toArray.isEmpty = false := by
    cases its with
    | nil => exact absurd rfl hn
    | cons a b => rfl
  by_cases e1 : k = 1
  · subst e1
    refine wpAny_binaryOp_repeat_ref (T := "tuple") (U := "int") (by decide) ⟨_, ho, rfl⟩ (fun s' => typeIs_int s' 1 t) noFill_tuple_mul F.fills_int_mul F.slot_int_rmul repeat_tuple F.slot_int_index.lookup
      (call_meets F.slot_int_rmul (typeIs_int s 1 t) F.entry_int_rmul (F.args_int_rmul_2 _ _) (int_rmul_tuple 1 t l its.toArray n dd sl)
        ⟨ho, rfl, ⟨_, ho, rfl⟩, call_meets F.slot_tuple_mul ⟨_, ho, rfl⟩ F.entry_tuple_mul (F.args_tuple_mul_2 _ _) (tuple_mul1 l its.toArray n dd sl t) ⟨ho, ?_⟩⟩)
    exact ⟨.ref l, H, I, rfl, q1 rfl⟩
  · have c0 : (decide (k < -(2 ^ 63)) || decide (k ≥ 2 ^ 63)) = false := by
      rw [decide_eq_false (by omega), decide_eq_false (by omega)] <;> rfl
    have c1 : (its.toArray.isEmpty || k == 1) = false := by
      rw [hi, Bool.false_or]
      exact beq_eq_false_iff_ne.mpr e1
    have c2 : (decide (k ≤ 0) || its.toArray.isEmpty) = true := by
      rw [hi, Bool.or_false]
      exact decide_eq_true (by omega)
    refine wpAny_binaryOp_repeat_ref (T := "tuple") (U := "int") (by decide) ⟨_, ho, rfl⟩ (fun s' => typeIs_int s' k t) noFill_tuple_mul F.fills_int_mul F.slot_int_rmul repeat_tuple F.slot_int_index.lookup
      (call_meets F.slot_int_rmul (typeIs_int s k t) F.entry_int_rmul (F.args_int_rmul_2 _ _) (int_rmul_tuple k t l its.toArray n dd sl)
        ⟨ho, rfl, ⟨_, ho, rfl⟩, call_meets F.slot_tuple_mul ⟨_, ho, rfl⟩ F.entry_tuple_mul (F.args_tuple_mul_2 _ _) (tuple_mul0 l its.toArray n dd sl k t c0 c1 c2) ⟨ho, ?_⟩⟩)
    have e0 : (List.replicate k.toNat xs).flatten = [] := by
      rw [show k.toNat = 0 by omega]; rfl
    have q3 := q2 e1
    rw [e0] at q3
    refine ⟨.ref s.heap.objs.size, _, I.laid (t' := s.toks) (o := .tup []) (fun b ob q => Heap.get?_push_of_some _ q) (Nat.le_refl _) ?_, rfl, q3 _ (I.hok.fresh (Nat.le_refl _))⟩
    exact ⟨by rw [sizeLine_eq]; simp, [], .nil, IsTup.new _ _⟩
end L2

namespace Mini
open PySem PySem.Spec PyProof.Rows L2

structure Pre (K : PySem.W.Frag) (Tb : List (Addr × Str)) (C : List Addr) (M : Addr → Prop) (H : Hp) (δ : Dl) : Prop where
  tabs : LamX.Tabs Tb H
  nd : C.Nodup
  len : C.length = δ.length
  cm : ∀ a, a ∈ C → ¬ M a
  mh : ∀ a, M a → ∃ xs, H a = some (.lst xs)
  cells : ∀ (k : Nat) (ts : List D), δ[k]? = some ts → ∃ (a : Addr) (vs : List V), C[k]? = some a ∧ H a = some (.lst vs) ∧ RepL K C M H ts vs
section
variable {K : PySem.W.Frag} {Tb : List (Addr × Str)} {C C' : List Addr} {M M' : Addr → Prop} {H H' : Hp} {δ δ' : Dl}
theorem Pre.cellH (p : Pre K Tb C M H δ) : CellH C H := fun a ha => by
  obtain ⟨k, hk, e⟩ := List.getElem_of_mem ha
  have hk' : k < δ.length := by rw [← p.len]; exact hk
  obtain ⟨b, vs, e1, e2, _⟩ := p.cells k δ[k] (List.getElem?_eq_getElem hk')
  rw [List.getElem?_eq_getElem hk, e] at e1
  cases e1
  exact ⟨vs, e2⟩
theorem Pre.fresh (p : Pre K Tb C M H δ) {a : Addr} (h : H a = none) : ¬ M a ∧ a ∉ C := by
  refine ⟨fun z => ?_, fun z => ?_⟩
  · obtain ⟨xs, q⟩ := p.mh a z
    rw [h] at q; cases q
  · obtain ⟨xs, q⟩ := p.cellH a z
    rw [h] at q; cases q
theorem le_of_all (h : ∀ b o, H b = some o → H' b = some o) : Le C H C H' := ⟨⟨[], by simp⟩, fun a z n => absurd z n, fun a o e _ _ => h a o e⟩
theorem upd_all {p : Addr} {o : HO} (h : H p = none) : ∀ b u, H b = some u → upd H p o b = some u := fun b u e => by
  rw [upd_ne (ne_of_none e h)]; exact e
theorem Pre.all (p : Pre K Tb C M H δ) (h : ∀ b o, H b = some o → H' b = some o) : Pre K Tb C M H' δ := by
  refine ⟨p.tabs.ext h, p.nd, p.len, p.cm, fun a m => ?_, fun k ts e => ?_⟩
  · obtain ⟨xs, q⟩ := p.mh a m
    exact ⟨xs, h _ _ q⟩
  · obtain ⟨a, vs, e1, e2, r⟩ := p.cells k ts e
    exact ⟨a, vs, e1, h _ _ e2, RepL.step p.cellH (le_of_all h) (fun a z => .inl z) ts vs r⟩
theorem Pre.newTup (p : Pre K Tb C M H δ) {ts : List D} {vs : List V} {q : Addr} (r : RepL K C M H ts vs) (h : H q = none) :
    Le C H C (upd H q (.tup vs)) ∧ Pre K Tb C M (upd H q (.tup vs)) δ ∧ Rep K C M (upd H q (.tup vs)) (.tup ts) (.ref q) := by
  have u := upd_all (o := .tup vs) h
  refine ⟨le_of_all u, p.all u, ?_⟩
  unfold Rep
  exact ⟨q, vs, rfl, SqT.of upd_same, RepL.step p.cellH (le_of_all u) (fun a z => .inl z) ts vs r⟩
theorem Pre.newLst (p : Pre K Tb C M H δ) {ts : List D} {vs : List V} {q : Addr} (r : RepL K C M H ts vs) (h : H q = none) :
    Le C H C (upd H q (.lst vs)) ∧ Pre K Tb C M (upd H q (.lst vs)) δ ∧ Rep K C M (upd H q (.lst vs)) (.lst ts) (.ref q) := by
  have u := upd_all (o := .lst vs) h
  obtain ⟨f1, f2⟩ := p.fresh h
  refine ⟨le_of_all u, p.all u, ?_⟩
  unfold Rep
  exact ⟨q, vs, rfl, f1, f2, upd_same, RepL.step p.cellH (le_of_all u) (fun a z => .inl z) ts vs r⟩

def Frs (K : PySem.W.Frag) (Tb : List (Addr × Str)) (M : Addr → Prop) (H : Hp) (C' : List Addr) (H' : Hp) (δ : Dl) (t : D) (v : V) : Prop :=
  ∀ ts, t = .lst ts → ∃ a vs, v = .ref a ∧ NT H a ∧ a ∉ C' ∧ H' a = some (.lst vs) ∧ Pre K Tb C' (fun x => M x ∨ x = a) H' δ ∧ RepL K C' (fun x => M x ∨ x = a) H' ts vs
theorem Frs.back {t : D} {v : V} {C1 : List Addr} {H1 : Hp} (l : Le C H C1 H1) (l1 : Le C1 H1 C' H') (f : Frs K Tb M H1 C' H' δ t v) : Frs K Tb M H C' H' δ t v := fun ts e => by
  obtain ⟨a, vs, h1, h2, h3, h4⟩ := f ts e
  exact ⟨a, vs, h1, h2.back l.ext (fun z => h3 (l1.mem (l.mem z))), h3, h4⟩
def Post (K : PySem.W.Frag) (Tb : List (Addr × Str)) (fr : Bool) (C : List Addr) (M : Addr → Prop) (H : Hp) (δ : Dl) (t : D) (Q : VK) : Prop :=
  ∀ C' H' v, Le C H C' H' → Pre K Tb C' M H' δ → Rep K C' M H' t v → (fr = true → Frs K Tb M H C' H' δ t v) → Q v H'
theorem Post.here {t : D} {Q : VK} {v : V} (q : Post K Tb false C M H δ t Q) (p : Pre K Tb C M H δ) (r : Rep K C M H t v) : Q v H := q C H v (Le.refl C H) p r (fun z => by cases z)
theorem Post.hereN {t : D} {Q : VK} {v : V} {fr : Bool} (q : Post K Tb fr C M H δ t Q) (p : Pre K Tb C M H δ) (r : Rep K C M H t v) (n : ∀ ts, t ≠ .lst ts) : Q v H := q C H v (Le.refl C H) p r (fun _ ts e => absurd e (n ts))
theorem Post.tup {ts : List D} {vs : List V} {Q : VK} {fr : Bool} (q : Post K Tb fr C M H δ (.tup ts) Q) (p : Pre K Tb C M H δ) (r : RepL K C M H ts vs) : ∀ a, H a = none → Q (.ref a) (upd H a (.tup vs)) := fun a ha => by
  obtain ⟨l, p', r'⟩ := p.newTup r ha
  exact q C _ _ l p' r' (fun _ ts e => by cases e)
theorem Post.lst {ts : List D} {vs : List V} {Q : VK} {fr : Bool} (q : Post K Tb fr C M H δ (.lst ts) Q) (p : Pre K Tb C M H δ) (r : RepL K C M H ts vs) : ∀ a, H a = none → Q (.ref a) (upd H a (.lst vs)) := fun a ha => by
  obtain ⟨l, p', r'⟩ := p.newLst r ha
  refine q C _ _ l p' r' (fun _ us e => ?_)
  cases e
  obtain ⟨f1, f2⟩ := p.fresh ha
  have hm : ∀ x, (M x ∨ x = a) → M x ∨ NT H x := fun x z => z.elim .inl fun e => .inr (by rw [e]; exact NT.of_none ha)
  refine ⟨a, vs, rfl, NT.of_none ha, f2, upd_same, ⟨p'.tabs, p'.nd, p'.len, fun x hx z => ?_, fun x z => ?_, fun k us e => ?_⟩, RepL.step p.cellH l hm ts vs r⟩
  · rcases z with z | z
    · exact p.cm x hx z
    · rw [z] at hx; exact f2 hx
  · rcases z with z | z
    · exact p'.mh x z
    · rw [z]; exact ⟨vs, upd_same⟩
  · obtain ⟨b, ws, e1, e2, r2⟩ := p.cells k us e
    exact ⟨b, ws, e1, upd_all ha _ _ e2, RepL.step p.cellH l hm us ws r2⟩

theorem rep_non {v : V} (h : Rep K C M H .non v) : v = .non := by unfold Rep at h; exact h
theorem rep_bl {b : Bool} {v : V} (h : Rep K C M H (.bl b) v) : v = .bl b := by unfold Rep at h; exact h
theorem rep_int {i : Int} {v : V} (h : Rep K C M H (.int i) v) : v = .int i := by unfold Rep at h; exact h
theorem rep_str {i : Str} {v : V} (h : Rep K C M H (.str i) v) : v = .str i := by unfold Rep at h; exact h
theorem rep_ty {i : String} {v : V} (h : Rep K C M H (.ty i) v) : v = .ty i := by unfold Rep at h; exact h
theorem mk_non : Rep K C M H .non .non := by unfold Rep; rfl
theorem mk_bl {b : Bool} : Rep K C M H (.bl b) (.bl b) := by unfold Rep; rfl
theorem mk_int {i : Int} : Rep K C M H (.int i) (.int i) := by unfold Rep; rfl
theorem mk_str {i : Str} : Rep K C M H (.str i) (.str i) := by unfold Rep; rfl
theorem mk_ty {i : String} : Rep K C M H (.ty i) (.ty i) := by unfold Rep; rfl
theorem rep_tup {ts : List D} {v : V} (h : Rep K C M H (.tup ts) v) : ∃ a vs, v = .ref a ∧ SqT K H a vs ∧ RepL K C M H ts vs := by unfold Rep at h; exact h
theorem rep_lst {ts : List D} {v : V} (h : Rep K C M H (.lst ts) v) : ∃ a vs, v = .ref a ∧ ¬ M a ∧ a ∉ C ∧ H a = some (.lst vs) ∧ RepL K C M H ts vs := by unfold Rep at h; exact h
theorem rep_own {ts : List D} {v : V} (h : RepS K C M H (.own ts) v) : ∃ a vs, v = .ref a ∧ a ∉ C ∧ H a = some (.lst vs) ∧ RepL K C M H ts vs := h
theorem RepS.rep {d : D} {v : V} (h : RepS K C M H d v) (n : isOwn d = false) : Rep K C M H d v := by
  cases d
  case own ts => cases n
  all_goals exact h
theorem Rep.repS {d : D} {v : V} (h : Rep K C M H d v) : RepS K C M H d v := by
  cases d
  case own ts => unfold Rep at h; exact h.elim
  all_goals exact h
theorem RSL.repL : ∀ {ts : List D} {vs : List V}, RSL K C M H ts vs → ts.any isOwn = false → RepL K C M H ts vs
  | [], vs, h, n => by rw [show vs = [] from h]; exact repL_nil
  | t :: ts, vs, ⟨v, r, e, h1, h2⟩, n => by
    rw [List.any_cons, Bool.or_eq_false_iff] at n
    rw [e]; exact repL_cons (h1.rep n.1) (RSL.repL h2 n.2)
theorem RepL.rsl : ∀ {ts : List D} {vs : List V}, RepL K C M H ts vs → RSL K C M H ts vs
  | [], vs, h => by unfold RepL at h; exact h
  | t :: ts, vs, h => by
    unfold RepL at h
    obtain ⟨v, r, e, h1, h2⟩ := h
    exact ⟨v, r, e, h1.repS, RepL.rsl h2⟩
theorem RSL.length : ∀ {ts : List D} {vs : List V}, RSL K C M H ts vs → vs.length = ts.length
  | [], vs, h => by rw [show vs = [] from h]; rfl
  | t :: ts, vs, ⟨v, r, e, h1, h2⟩ => by rw [e, List.length_cons, List.length_cons, RSL.length h2]
theorem rep_frz {ts : List D} {v : V} (h : Rep K C M H (.frz ts) v) : ∃ a vs, v = .ref a ∧ FzK K C M H a vs ∧ RepL K C M H ts vs := by unfold Rep at h; exact h
theorem rep_cell {k : Nat} {v : V} (h : Rep K C M H (.cell k) v) : ∃ a, v = .ref a ∧ C[k]? = some a := by unfold Rep at h; exact h
theorem mk_tup {ts : List D} {a : Addr} {vs : List V} (h : SqT K H a vs) (r : RepL K C M H ts vs) : Rep K C M H (.tup ts) (.ref a) := by unfold Rep; exact ⟨a, vs, rfl, h, r⟩
theorem seqD_rep (p : Pre K Tb C M H δ) {d : D} {ts : List D} {v : V} (e : seqD δ d = some ts) (r : RepS K C M H d v) : ∃ a vs, v = .ref a ∧ (SqL K H a vs ∨ SqT K H a vs) ∧ RepL K C M H ts vs := by
  cases d <;> simp only [seqD] at e <;> first | cases e | skip
  case tup.refl => obtain ⟨a, vs, h1, h2, h3⟩ := rep_tup r; exact ⟨a, vs, h1, .inr h2, h3⟩
  case lst.refl => obtain ⟨a, vs, h1, _, _, h2, h3⟩ := rep_lst r; exact ⟨a, vs, h1, .inl (SqL.of h2), h3⟩
  case own.refl => obtain ⟨a, vs, h1, _, h2, h3⟩ := rep_own r; exact ⟨a, vs, h1, .inl (SqL.of h2), h3⟩
  case frz.refl => obtain ⟨a, vs, h1, h2, h3⟩ := rep_frz r; exact ⟨a, vs, h1, .inl h2.sq, h3⟩
  case cell k =>
    obtain ⟨a, h1, h2⟩ := rep_cell (K := K) (M := M) (H := H) (r.rep rfl)
    obtain ⟨b, vs, q1, q2, q3⟩ := p.cells k ts e
    rw [h2] at q1; cases q1
    exact ⟨a, vs, h1, .inl (SqL.of q2), q3⟩
mutual
theorem dp_of : ∀ (t : D) (v : V) (d : PyData), Rep K C M H t v → dat t = some d → Dp K H v d
  | .non, v, d, r, e => by rw [rep_non r]; simp only [dat] at e; cases e; exact .non
  | .bl b, v, d, r, e => by rw [rep_bl r]; simp only [dat] at e; cases e; exact .bl b
  | .int b, v, d, r, e => by rw [rep_int r]; simp only [dat] at e; cases e; exact .int b
  | .str b, v, d, r, e => by rw [rep_str r]; simp only [dat] at e; cases e; exact .str b
  | .ty b, v, d, r, e => by simp only [dat] at e; cases e
  | .cell b, v, d, r, e => by simp only [dat] at e; cases e
  | .tup ts, v, d, r, e => by
    obtain ⟨a, vs, h1, h2, h3⟩ := rep_tup r
    simp only [dat, Option.map_eq_some_iff] at e
    obtain ⟨ds, e1, e2⟩ := e
    rw [h1, ← e2]
    exact .tup h2 (dpL_of ts vs ds h3 e1)
  | .lst ts, v, d, r, e => by
    obtain ⟨a, vs, h1, _, _, h2, h3⟩ := rep_lst r
    simp only [dat, Option.map_eq_some_iff] at e
    obtain ⟨ds, e1, e2⟩ := e
    rw [h1, ← e2]
    exact .lst (SqL.of h2) (dpL_of ts vs ds h3 e1)
  | .own ts, v, d, r, e => by
    unfold Rep at r; exact r.elim
  | .frz ts, v, d, r, e => by
    obtain ⟨a, vs, h1, h2, h3⟩ := rep_frz r
    simp only [dat, Option.map_eq_some_iff] at e
    obtain ⟨ds, e1, e2⟩ := e
    rw [h1, ← e2]
    exact .lst h2.sq (dpL_of ts vs ds h3 e1)
theorem dpL_of : ∀ (ts : List D) (vs : List V) (ds : List PyData), RepL K C M H ts vs → datL ts = some ds → DpAll K H vs ds
  | [], vs, ds, r, e => by
    unfold RepL at r
    simp only [datL] at e
    cases e
    rw [r]; exact .nil
  | t :: ts, vs, ds, r, e => by
    unfold RepL at r
    obtain ⟨v, w, e0, r1, r2⟩ := r
    simp only [datL] at e
    split at e
    · rename_i d es q1 q2
      cases e
      rw [e0]
      exact .cons (dp_of t v d r1 q1) (dpL_of ts w es r2 q2)
    · cases e
end
theorem dpS_of {t : D} {v : V} {d : PyData} (r : RepS K C M H t v) (e : dat t = some d) : Dp K H v d := by
  cases t
  case own ts =>
    obtain ⟨a, vs, h1, _, h2, h3⟩ := rep_own r
    simp only [dat, Option.map_eq_some_iff] at e
    obtain ⟨ds, e1, e2⟩ := e
    rw [h1, ← e2]
    exact .lst (SqL.of h2) (dpL_of ts vs ds h3 e1)
  all_goals exact dp_of _ v d r e
end

section
variable {K : PySem.W.Frag} {Tb : List (Addr × Str)} {C : List Addr} {M : Addr → Prop} {H H' : Hp} {p : Addr}
structure Wr (H H' : Hp) (p : Addr) : Prop where
  was : ∃ ws, H p = some (.lst ws)
  at_ : ∃ ws, H' p = some (.lst ws)
  oth : ∀ a o, a ≠ p → H a = some o → H' a = some o
mutual
theorem Rep.wr (hp : M p ∨ p ∈ C) (w : Wr H H' p) : ∀ (t : D) (v : V), Rep K C M H t v → Rep K C M H' t v
  | .non, v, h => by unfold Rep at h ⊢; exact h
  | .bl b, v, h => by unfold Rep at h ⊢; exact h
  | .int i, v, h => by unfold Rep at h ⊢; exact h
  | .str x, v, h => by unfold Rep at h ⊢; exact h
  | .ty n, v, h => by unfold Rep at h ⊢; exact h
  | .tup ts, v, h => by
    unfold Rep at h ⊢
    obtain ⟨a, vs, e, s, r⟩ := h
    obtain ⟨ws, q⟩ := w.was
    refine ⟨a, vs, e, ?_, RepL.wr hp w ts vs r⟩
    rcases s with (s | ⟨o, s⟩) | s
    · exact .inl (.inl (w.oth a _ (fun z => by rw [z, q] at s; cases s) s))
    · exact .inl (.inr ⟨o, w.oth a _ (fun z => by rw [z, q] at s; cases s) s⟩)
    · exact .inr s
  | .lst ts, v, h => by
    unfold Rep at h ⊢
    obtain ⟨a, vs, e, n, nc, s, r⟩ := h
    refine ⟨a, vs, e, n, nc, w.oth a _ (fun z => ?_) s, RepL.wr hp w ts vs r⟩
    rw [z] at n nc
    exact hp.elim n nc
  | .own ts, v, h => by unfold Rep at h; exact h.elim
  | .frz ts, v, h => by
    unfold Rep at h ⊢
    obtain ⟨a, vs, e, s, r⟩ := h
    obtain ⟨ws, q⟩ := w.was
    refine ⟨a, vs, e, ?_, RepL.wr hp w ts vs r⟩
    rcases s with ⟨o, s⟩ | ⟨n, nc, s⟩ | s
    · exact .inl ⟨o, w.oth a _ (fun z => by rw [z, q] at s; cases s) s⟩
    · refine .inr (.inl ⟨n, nc, w.oth a _ (fun z => ?_) s⟩)
      rw [z] at n nc
      exact hp.elim n nc
    · exact .inr (.inr s)
  | .cell k, v, h => by unfold Rep at h ⊢; exact h
theorem RepL.wr (hp : M p ∨ p ∈ C) (w : Wr H H' p) : ∀ (ts : List D) (vs : List V), RepL K C M H ts vs → RepL K C M H' ts vs
  | [], vs, h => by unfold RepL at h ⊢; exact h
  | t :: ts, vs, h => by
    unfold RepL at h ⊢
    obtain ⟨v, r, e, h1, h2⟩ := h
    exact ⟨v, r, e, Rep.wr hp w t v h1, RepL.wr hp w ts r h2⟩
end
theorem Wr.tabs (w : Wr H H' p) (t : LamX.Tabs Tb H) : LamX.Tabs Tb H' := fun x hx => by
  obtain ⟨ps, h1, h2, h3⟩ := t x hx
  obtain ⟨ws, q⟩ := w.was
  refine ⟨ps, w.oth _ _ (fun z => by rw [z, q] at h1; cases h1) h1, h2, fun pos cv hc => ?_⟩
  obtain ⟨c, e1, e2⟩ := h3 pos cv hc
  exact ⟨c, e1, w.oth _ _ (fun z => by rw [z, q] at e2; unfold LamX.CodeO at e2; cases e2) e2⟩
theorem Wr.mh (w : Wr H H' p) (h : ∀ a, M a → ∃ xs, H a = some (.lst xs)) : ∀ a, M a → ∃ xs, H' a = some (.lst xs) := fun a m => by
  by_cases e : a = p
  · rw [e]; exact w.at_
  · obtain ⟨xs, q⟩ := h a m
    exact ⟨xs, w.oth a _ e q⟩
end

def CDiv2 (_ j : Int) : Prop := j ≠ 0 ∧ j.natAbs.log2 < 9000
def rAddS : R2 := fun x y H Q => ∃ i j, x = .str i ∧ y = .str j ∧ i.length + j.length ≤ sizeLine ∧ Q (.str (i ++ j)) H
def rSubB : R2 := fun x y H Q => ∃ a b, x = .bl a ∧ y = .bl b ∧ Q (.int ((if a = true then (1 : Int) else 0) - (if b = true then (1 : Int) else 0))) H
theorem gives_subB (a b : Bool) : Gives (Builtin.«int.__sub__» ⟨[.bool a, .bool b], []⟩) (.int ((if a = true then (1 : Int) else 0) - (if b = true then (1 : Int) else 0))) :=
  .of_wp fun M A E s Q h => by obtain ⟨hp, g, d, tk, os⟩ := s; wp_walk; exact ⟨_, rfl, h⟩
theorem op_subB {X : Cx} : OpR X (binaryOp .Sub) rSubB := by
  intro pins s σ H x y v u Q I r1 r2 h
  obtain ⟨a, b, rfl, rfl, q⟩ := h
  obtain rfl : v = Value.bool a := r1
  obtain rfl : u = Value.bool b := r2
  exact binaryOp_gives (op := .Sub) (T := "bool") rfl rfl F.fills_bool_sub F.slot_bool_sub F.entry_int_sub (F.args_int_sub_2 _ _) (gives_subB a b) trivial ⟨.int _, H, I.tok _, ⟨_, rfl⟩, q⟩
def rBin (K : PySem.W.Frag) : Operator → R2
  | .Add => fun x y H Q => rI0 (fun i j => .int (i + j)) x y H Q ∨ rAddS x y H Q ∨ rCatA K x y H Q ∨ rCat x y H Q
  | .Sub => fun x y H Q => rI0 (fun i j => .int (i - j)) x y H Q ∨ rSubB x y H Q
  | .Mult => fun x y H Q => rI CMul (fun i j => .int (i * j)) x y H Q ∨ rI CMulW (fun i j => .int (i * j)) x y H Q ∨ rRep x y H Q ∨ rRepTA K x y H Q
  | .FloorDiv => rI CDiv2 fun i j => .int (i.fdiv j)
  | .Mod => rI (fun _ j => j ≠ 0) fun i j => .int (i.fmod j)
  | .Pow => rI CPow fun i j => .int (i ^ j.toNat)
  | _ => fun _ _ _ _ => False
section
variable {X : Cx}
theorem op_fdiv2 : OpR X (binaryOp .FloorDiv) (rI CDiv2 fun i j => .int (i.fdiv j)) := opI fun _ _ _ _ _ _ _ hc q => floordiv_int hc.1 q (.inl (PyProof.noPylong_of_log2 hc.2))
theorem op_bin : ∀ o, OpR X (binaryOp o) (rBin X.K o)
  | .Add => op_add.or (op_add_str.or (op_catA.or op_cat))
  | .Sub => op_sub.or op_subB
  | .Mult => op_mul.or (op_mulW.or (op_rep.or op_repTA))
  | .FloorDiv => op_fdiv2
  | .Mod => op_modN
  | .Pow => op_pow
  | .MatMult | .Div | .LShift | .RShift | .BitOr | .BitXor | .BitAnd => fun _ _ _ _ _ _ _ _ _ _ _ _ h => h.elim
def rAug : Operator → R2
  | .Add => fun x y H Q => rI0 (fun i j => .int (i + j)) x y H Q ∨ rAddS x y H Q
  | .Sub => rI0 fun i j => .int (i - j)
  | .Mult => fun x y H Q => rI CMul (fun i j => .int (i * j)) x y H Q ∨ rI CMulW (fun i j => .int (i * j)) x y H Q
  | .FloorDiv => rI CDiv2 fun i j => .int (i.fdiv j)
  | .Mod => rI (fun _ j => j ≠ 0) fun i j => .int (i.fmod j)
  | _ => fun _ _ _ _ => False
theorem iop_mulW : OpR X (inplaceOp .Mult) (rI CMulW fun i j => .int (i * j)) := opI fun _ _ _ _ _ _ _ hc q => imul_int q hc.ok
theorem iop_fdiv2 : OpR X (inplaceOp .FloorDiv) (rI CDiv2 fun i j => .int (i.fdiv j)) := opI fun _ _ _ _ _ _ _ hc q => ifloordiv_int hc.1 q (.inl (PyProof.noPylong_of_log2 hc.2))
theorem iop_mod2 : OpR X (inplaceOp .Mod) (rI (fun _ j => j ≠ 0) fun i j => .int (i.fmod j)) := opI fun _ _ _ _ _ _ _ hc q => imod_int hc q
theorem op_aug : ∀ o, OpR X (inplaceOp o) (rAug o)
  | .Add => iop_add.or iop_add_str
  | .Sub => iop_sub
  | .Mult => iop_mul.or iop_mulW
  | .FloorDiv => iop_fdiv2
  | .Mod => iop_mod2
  | .Pow | .MatMult | .Div | .LShift | .RShift | .BitOr | .BitXor | .BitAnd => fun _ _ _ _ _ _ _ _ _ _ _ _ h => h.elim
end
end Mini

namespace Mini
open PySem PySem.Spec PyProof.Rows L2
theorem line_eq : line = sizeLine := by rw [sizeLine_eq]; rfl
theorem log2_big {i : Int} (h : i.natAbs < big) : i.natAbs.log2 < 8990 := PySem.Flt.log2_lt_of (by decide) (by unfold big at h; exact h)
theorem small_of {i : Int} (h : Mini.small i = true) : -(2 ^ 64) < i ∧ i < 2 ^ 64 := by
  unfold Mini.small at h
  rw [Bool.and_eq_true] at h
  exact ⟨of_decide_eq_true h.1, of_decide_eq_true h.2⟩

def rInT (K : PySem.W.Frag) : R2 := fun x y H Q => ∃ d ds, Dp K H x d ∧ Dp K H y (.tuple ds) ∧ SeqAt.shaped d = true ∧ SeqAt.shaped (.tuple ds) = true ∧ Q (.bl (ds.any fun z => PyData.eqv z d)) H
def rNotInT (K : PySem.W.Frag) : R2 := fun x y H Q => ∃ d ds, Dp K H x d ∧ Dp K H y (.tuple ds) ∧ SeqAt.shaped d = true ∧ SeqAt.shaped (.tuple ds) = true ∧ Q (.bl (!ds.any fun z => PyData.eqv z d)) H
theorem op_inT {X : Cx} (hu : X.A.units + 65 < cLine) : OpR X (compareOp .In) (rInT X.K) := by
  intro pins s σ H x y v u Q I rx ry h
  obtain ⟨d, ds, hd, he, sd, se, q⟩ := h
  obtain ⟨as, r1⟩ := Dp.reads I d x v hd rx
  obtain ⟨bs, r2⟩ := Dp.reads I (.tuple ds) y u he ry
  exact SeqAt.in_tuple_reads r2 r1 (SeqAt.canLay_of_shaped se) (SeqAt.canLay_of_shaped sd) (room_in_shaped sd hu) ⟨.bl _, H, I, rfl, q⟩
theorem op_notInT {X : Cx} (hu : X.A.units + 65 < cLine) : OpR X (compareOp .NotIn) (rNotInT X.K) := by
  intro pins s σ H x y v u Q I rx ry h
  obtain ⟨d, ds, hd, he, sd, se, q⟩ := h
  obtain ⟨as, r1⟩ := Dp.reads I d x v hd rx
  obtain ⟨bs, r2⟩ := Dp.reads I (.tuple ds) y u he ry
  exact SeqAt.notIn_tuple_reads r2 r1 (SeqAt.canLay_of_shaped se) (SeqAt.canLay_of_shaped sd) (room_in_shaped sd hu) ⟨.bl _, H, I, rfl, q⟩
theorem _root_.L2.OpR.or' {X : Cx} {f : Value → Value → Sem Value} {r r' : R2} (h : OpR X f r) (h' : OpR X f r') : OpR X f (fun x y H Q => r x y H Q ∨ r' x y H Q) := by
  intro pins s σ H x y v u Q I rx ry hh
  exact hh.elim (h pins s σ H x y v u Q I rx ry) (h' pins s σ H x y v u Q I rx ry)
def rCmp (K : PySem.W.Frag) : CmpOp → R2
  | .Eq => rEqD K
  | .NotEq => rNeD K
  | .Lt => rI0 fun i j => .bl (decide (i < j))
  | .LtE => rI0 fun i j => .bl (decide (i ≤ j))
  | .Gt => rI0 fun i j => .bl (decide (j < i))
  | .GtE => rI0 fun i j => .bl (decide (j ≤ i))
  | .Is => fun x y H Q => y = .non ∧ Q (.bl (decide (x = .non))) H
  | .IsNot => fun x y H Q => y = .non ∧ Q (.bl (!decide (x = .non))) H
  | .In => fun x y H Q => rInD K x y H Q ∨ rInT K x y H Q
  | .NotIn => fun x y H Q => rNotInD K x y H Q ∨ rNotInT K x y H Q
theorem op_cmp {X : Cx} (hu : X.A.units + 65 < cLine) : ∀ o, OpR X (compareOp o) (rCmp X.K o)
  | .Eq => op_eqD (by omega)
  | .NotEq => op_neD (by omega)
  | .Lt => op_lt
  | .LtE => op_le
  | .Gt => op_gt
  | .GtE => op_ge
  | .Is => op_isN
  | .IsNot => op_notN
  | .In => (op_inD hu).or' (op_inT hu)
  | .NotIn => (op_notInD hu).or' (op_notInT hu)
def rSl (K : PySem.W.Frag) : V → Option Int → Option Int → Hp → VK → Prop := fun x lo hi H Q => rSlA K x lo hi H Q ∨ rSlL K x lo hi H Q
theorem sl_all {X : Cx} : SlR X (rSl X.K) := sl_tupA.or sl_list

section
variable {K : PySem.W.Frag} {Tb : List (Addr × Str)} {C : List Addr} {M : Addr → Prop} {H : Hp} {δ : Dl}
theorem mlst_rep {d : D} {ts : List D} {v : V} (r : RepS K C M H d v) (e : d = .lst ts ∨ d = .own ts) : ∃ a vs, v = .ref a ∧ H a = some (.lst vs) ∧ RepL K C M H ts vs := by
  rcases e with e | e <;> subst e
  · obtain ⟨a, vs, h1, _, _, h2, h3⟩ := rep_lst (r.rep rfl)
    exact ⟨a, vs, h1, h2, h3⟩
  · obtain ⟨a, vs, h1, _, h2, h3⟩ := rep_own r
    exact ⟨a, vs, h1, h2, h3⟩
theorem _root_.Mini.RepL.rep {ts : List D} {vs : List V} (r : RepL K C M H ts vs) : ∀ n : Nat, RepL K C M H (List.replicate n ts).flatten (List.replicate n vs).flatten
  | 0 => repL_nil
  | n + 1 => by
    rw [List.replicate_succ, List.replicate_succ, List.flatten_cons, List.flatten_cons]
    exact r.append (RepL.rep r n)
theorem cat_ok (p : Pre K Tb C M H δ) {x y : D} {a b : List D} {v u : V} {Q : VK} {fr : Bool} (hx : x = .lst a ∨ x = .own a) (hy : y = .lst b ∨ y = .own b) (hl : a.length + b.length ≤ line)
    (rx : RepS K C M H x v) (ry : RepS K C M H y u) (q : Post K Tb fr C M H δ (.lst (a ++ b)) Q) : rBin K .Add v u H Q := by
  obtain ⟨p1, v1, e1, h1, r1⟩ := mlst_rep rx hx
  obtain ⟨p2, v2, e2, h2, r2⟩ := mlst_rep ry hy
  exact .inr (.inr (.inr ⟨p1, p2, v1, v2, e1, e2, h1, h2, by rw [r1.length, r2.length, ← line_eq]; exact hl, q.lst p (r1.append r2)⟩))
theorem bin_ok (p : Pre K Tb C M H δ) {o : Operator} {x y z : D} {v u : V} {Q : VK} {fr : Bool} (e : binD o x y = some z) (rx : RepS K C M H x v) (ry : RepS K C M H y u) (hf : True)
    (q : Post K Tb fr C M H δ z Q) : rBin K o v u H Q := by
  unfold binD at e
  split at e
  · cases e
    exact .inl ⟨_, _, rep_int (rx.rep rfl), rep_int (ry.rep rfl), q.hereN p mk_int (fun _ z => by cases z)⟩
  · split at e
    · rename_i hl
      cases e
      exact .inr (.inl ⟨_, _, rep_str (rx.rep rfl), rep_str (ry.rep rfl), by rw [← line_eq]; exact hl, q.hereN p mk_str (fun _ z => by cases z)⟩)
    · cases e
  · split at e
    · rename_i a b hl
      cases e
      obtain ⟨p1, v1, e1, h1, r1⟩ := rep_tup (rx.rep rfl)
      obtain ⟨p2, v2, e2, h2, r2⟩ := rep_tup (ry.rep rfl)
      refine .inr (.inr (.inl ⟨p1, p2, v1, v2, e1, e2, h1, h2, by rw [r1.length, r2.length, ← line_eq]; exact hl, fun z => ?_, fun _ z => ?_, fun _ _ => q.tup p (r1.append r2)⟩))
      · have za : a = [] := by rw [← List.length_eq_zero_iff, ← r1.length, z]; rfl
        subst za
        rw [← e2]; exact q.hereN p (by simpa using ry.rep rfl) (fun _ z => by cases z)
      · have zb : b = [] := by rw [← List.length_eq_zero_iff, ← r2.length, z]; rfl
        subst zb
        rw [← e1]; exact q.hereN p (by simpa using rx.rep rfl) (fun _ z => by cases z)
    · cases e
  · split at e
    · rename_i hl; cases e; exact cat_ok p (.inl rfl) (.inl rfl) hl rx ry q
    · cases e
  · split at e
    · rename_i hl; cases e; exact cat_ok p (.inr rfl) (.inl rfl) hl rx ry q
    · cases e
  · split at e
    · rename_i hl; cases e; exact cat_ok p (.inl rfl) (.inr rfl) hl rx ry q
    · cases e
  · split at e
    · rename_i hl; cases e; exact cat_ok p (.inr rfl) (.inr rfl) hl rx ry q
    · cases e
  · cases e
    exact .inl ⟨_, _, rep_int (rx.rep rfl), rep_int (ry.rep rfl), q.hereN p mk_int (fun _ z => by cases z)⟩
  · cases e
    exact .inr ⟨_, _, rep_bl (rx.rep rfl), rep_bl (ry.rep rfl), q.hereN p mk_int (fun _ z => by cases z)⟩
  · split at e
    · rename_i hm
      cases e
      have q' := q.hereN p (v := .int _) mk_int (fun _ z => by cases z)
      unfold mulOk at hm
      rw [Bool.or_eq_true, Bool.or_eq_true, Bool.and_eq_true] at hm
      rcases hm with (hm | hm) | hm
      · exact .inl ⟨_, _, rep_int (rx.rep rfl), rep_int (ry.rep rfl), .inl (small_of hm), q'⟩
      · exact .inl ⟨_, _, rep_int (rx.rep rfl), rep_int (ry.rep rfl), .inr (small_of hm), q'⟩
      · refine .inr (.inl ⟨_, _, rep_int (rx.rep rfl), rep_int (ry.rep rfl), ?_, q'⟩)
        have h1 := log2_big (of_decide_eq_true hm.1)
        have h2 := log2_big (of_decide_eq_true hm.2)
        unfold CMulW
        omega
    · cases e
  · split at e
    · rename_i a j hl
      cases e
      obtain ⟨p1, v1, e1, h1, r1⟩ := rep_tup (rx.rep rfl)
      rw [Bool.and_eq_true, Bool.and_eq_true, Bool.and_eq_true] at hl
      have hn : v1 ≠ [] := fun z => by
        have := r1.length
        rw [z] at this
        have ha : a = [] := List.eq_nil_of_length_eq_zero this.symm
        rw [ha] at hl
        cases hl.1.1.1
      refine .inr (.inr (.inr ⟨p1, _, v1, e1, rep_int (ry.rep rfl), h1, hn, of_decide_eq_true hl.1.1.2, of_decide_eq_true hl.1.2, by rw [r1.length]; exact of_decide_eq_true hl.2, fun e => ?_, fun _ => q.tup p (r1.rep _)⟩))
      have ez : (List.replicate j.toNat a).flatten = a := by
        rw [e]
        show (a :: []).flatten = a
        simp
      rw [ez] at q
      rw [← e1]
      exact q.hereN p (rx.rep rfl) (fun _ z => by cases z)
    · cases e
  · split at e
    · rename_i a j hl
      cases e
      obtain ⟨p1, v1, e1, h1, r1⟩ := mlst_rep rx (.inl rfl)
      unfold repOk at hl
      rw [Bool.and_eq_true, Bool.and_eq_true] at hl
      exact .inr (.inr (.inl ⟨p1, _, v1, e1, rep_int (ry.rep rfl), h1, of_decide_eq_true hl.1.1, of_decide_eq_true hl.1.2, by rw [r1.length, ← line_eq]; exact of_decide_eq_true hl.2, q.lst p (r1.rep _)⟩))
    · cases e
  · split at e
    · rename_i hm
      cases e
      unfold divOk at hm
      rw [Bool.and_eq_true] at hm
      refine ⟨_, _, rep_int (rx.rep rfl), rep_int (ry.rep rfl), ⟨of_decide_eq_true hm.1, ?_⟩, q.hereN p mk_int (fun _ z => by cases z)⟩
      have := log2_big (of_decide_eq_true hm.2)
      omega
    · cases e
  · split at e
    · cases e
    · rename_i hm
      cases e
      exact ⟨_, _, rep_int (rx.rep rfl), rep_int (ry.rep rfl), hm, q.hereN p mk_int (fun _ z => by cases z)⟩
  · split at e
    · rename_i hm
      cases e
      unfold powOk at hm
      rw [Bool.and_eq_true, Bool.and_eq_true] at hm
      refine ⟨_, _, rep_int (rx.rep rfl), rep_int (ry.rep rfl), ⟨of_decide_eq_true hm.1.1, of_decide_eq_true hm.1.2, ?_⟩, q.hereN p mk_int (fun _ z => by cases z)⟩
      have := small_of hm.2
      omega
    · cases e
  · cases e
theorem aug_ok {o : Operator} {x y z : D} {v u : V} {Q : VK} (e : augD o x y = some z) (rx : RepS K C M H x v) (ry : RepS K C M H y u) (q : ∀ w, Rep K C M H z w → Q w H) : rAug o v u H Q := by
  unfold augD at e
  split at e
  · cases e
    exact .inl ⟨_, _, rep_int (rx.rep rfl), rep_int (ry.rep rfl), q _ mk_int⟩
  · split at e
    · rename_i hl
      cases e
      exact .inr ⟨_, _, rep_str (rx.rep rfl), rep_str (ry.rep rfl), by rw [← line_eq]; exact hl, q _ mk_str⟩
    · cases e
  · cases e
    exact ⟨_, _, rep_int (rx.rep rfl), rep_int (ry.rep rfl), q _ mk_int⟩
  · split at e
    · rename_i hm
      cases e
      have q' := q _ mk_int
      unfold mulOk at hm
      rw [Bool.or_eq_true, Bool.or_eq_true, Bool.and_eq_true] at hm
      rcases hm with (hm | hm) | hm
      · exact .inl ⟨_, _, rep_int (rx.rep rfl), rep_int (ry.rep rfl), .inl (small_of hm), q'⟩
      · exact .inl ⟨_, _, rep_int (rx.rep rfl), rep_int (ry.rep rfl), .inr (small_of hm), q'⟩
      · refine .inr ⟨_, _, rep_int (rx.rep rfl), rep_int (ry.rep rfl), ?_, q'⟩
        have h1 := log2_big (of_decide_eq_true hm.1)
        have h2 := log2_big (of_decide_eq_true hm.2)
        unfold CMulW
        omega
    · cases e
  · split at e
    · rename_i hm
      cases e
      unfold divOk at hm
      rw [Bool.and_eq_true] at hm
      refine ⟨_, _, rep_int (rx.rep rfl), rep_int (ry.rep rfl), ⟨of_decide_eq_true hm.1, ?_⟩, q _ mk_int⟩
      have := log2_big (of_decide_eq_true hm.2)
      omega
    · cases e
  · split at e
    · cases e
    · rename_i hm
      cases e
      exact ⟨_, _, rep_int (rx.rep rfl), rep_int (ry.rep rfl), hm, q _ mk_int⟩
  · cases e
theorem eq_ok {x y : D} {k : Bool} {v u : V} (e : eqD x y = some k) (rx : RepS K C M H x v) (ry : RepS K C M H y u) :
    ∃ d f, Dp K H v d ∧ Dp K H u f ∧ SeqAt.shaped d = true ∧ SeqAt.shaped f = true ∧ PyData.eqv d f = k := by
  unfold eqD at e
  split at e
  · rename_i d f q1 q2
    split at e
    · rename_i hs
      rw [Bool.and_eq_true] at hs
      cases e
      exact ⟨d, f, dpS_of rx q1, dpS_of ry q2, hs.1, hs.2, rfl⟩
    · cases e
  · cases e
theorem in_ok {x y : D} {k : Bool} {v u : V} (e : inD x y = some k) (rx : RepS K C M H x v) (ry : RepS K C M H y u) :
    (∃ d ds, Dp K H v d ∧ Dp K H u (.list ds) ∧ SeqAt.shaped d = true ∧ SeqAt.shaped (.list ds) = true ∧ (ds.any fun z => PyData.eqv z d) = k) ∨
    ∃ d ds, Dp K H v d ∧ Dp K H u (.tuple ds) ∧ SeqAt.shaped d = true ∧ SeqAt.shaped (.tuple ds) = true ∧ (ds.any fun z => PyData.eqv z d) = k := by
  unfold inD at e
  split at e
  · rename_i d ds q1 q2
    split at e
    · rename_i hs
      rw [Bool.and_eq_true] at hs
      cases e
      exact .inl ⟨d, ds, dpS_of rx q1, dpS_of ry q2, hs.1, hs.2, rfl⟩
    · cases e
  · rename_i d ds q1 q2
    split at e
    · rename_i hs
      rw [Bool.and_eq_true] at hs
      cases e
      exact .inr ⟨d, ds, dpS_of rx q1, dpS_of ry q2, hs.1, hs.2, rfl⟩
    · cases e
  · cases e
theorem isN_of {x : D} {v : V} (r : RepS K C M H x v) : decide (v = V.non) = isNonD x := by
  cases x
  case non => rw [rep_non (r.rep rfl)]; rfl
  case bl => rw [rep_bl (r.rep rfl)]; rfl
  case int => rw [rep_int (r.rep rfl)]; rfl
  case str => rw [rep_str (r.rep rfl)]; rfl
  case ty => rw [rep_ty (r.rep rfl)]; rfl
  case tup => obtain ⟨a, _, e, _⟩ := rep_tup (r.rep rfl); rw [e]; rfl
  case lst => obtain ⟨a, _, e, _⟩ := rep_lst (r.rep rfl); rw [e]; rfl
  case own => obtain ⟨a, _, e, _⟩ := rep_own r; rw [e]; rfl
  case frz => obtain ⟨a, _, e, _⟩ := rep_frz (r.rep rfl); rw [e]; rfl
  case cell => obtain ⟨a, e, _⟩ := rep_cell (K := K) (M := M) (H := H) (r.rep rfl); rw [e]; rfl
theorem cmp_ok {o : CmpOp} {x y : D} {k : Bool} {v u : V} {Q : VK} (e : cmpD o x y = some k) (rx : RepS K C M H x v) (ry : RepS K C M H y u) (q : Q (.bl k) H) : rCmp K o v u H Q := by
  unfold cmpD at e
  split at e
  · obtain ⟨d, f, h1, h2, h3, h4, h5⟩ := eq_ok e rx ry
    exact ⟨d, f, h1, h2, h3, h4, by rw [h5]; exact q⟩
  · rw [Option.map_eq_some_iff] at e
    obtain ⟨k', e, e'⟩ := e
    obtain ⟨d, f, h1, h2, h3, h4, h5⟩ := eq_ok e rx ry
    exact ⟨d, f, h1, h2, h3, h4, by rw [h5, e']; exact q⟩
  iterate 4
    · cases e
      exact ⟨_, _, rep_int (rx.rep rfl), rep_int (ry.rep rfl), q⟩
  · rcases in_ok e rx ry with ⟨d, ds, h1, h2, h3, h4, h5⟩ | ⟨d, ds, h1, h2, h3, h4, h5⟩
    · exact .inl ⟨d, ds, h1, h2, h3, h4, by rw [h5]; exact q⟩
    · exact .inr ⟨d, ds, h1, h2, h3, h4, by rw [h5]; exact q⟩
  · rw [Option.map_eq_some_iff] at e
    obtain ⟨k', e, e'⟩ := e
    rcases in_ok e rx ry with ⟨d, ds, h1, h2, h3, h4, h5⟩ | ⟨d, ds, h1, h2, h3, h4, h5⟩
    · exact .inl ⟨d, ds, h1, h2, h3, h4, by rw [h5, e']; exact q⟩
    · exact .inr ⟨d, ds, h1, h2, h3, h4, by rw [h5, e']; exact q⟩
  · refine ⟨rep_non (ry.rep rfl), ?_⟩
    rw [isN_of rx]
    cases e
    exact q
  · refine ⟨rep_non (ry.rep rfl), ?_⟩
    rw [isN_of rx]
    cases e
    exact q
  · cases e
theorem tru_ok {x : D} {k : Bool} {v : V} (e : truthD x = some k) (r : RepS K C M H x v) : TruV K v H k := by
  have emp : ∀ {ts : List D} {vs : List V}, RepL K C M H ts vs → (!ts.isEmpty) = !vs.isEmpty := fun {ts vs} h => by
    have := h.length
    cases ts <;> cases vs <;> first | rfl | (simp at this)
  cases x <;> simp only [truthD] at e <;> first | cases e | skip
  case non.refl => rw [rep_non (r.rep rfl)]; rfl
  case bl.refl => rw [rep_bl (r.rep rfl)]; rfl
  case int.refl => rw [rep_int (r.rep rfl)]; rfl
  case str s =>
    split at e
    · rename_i hl
      cases e
      rw [rep_str (r.rep rfl)]
      exact ⟨by rw [← line_eq]; exact hl, rfl⟩
    · cases e
  case tup.refl => obtain ⟨a, vs, e, h, h2⟩ := rep_tup (r.rep rfl); rw [e, emp h2]; exact .inr (.inl ⟨vs, h, rfl⟩)
  case lst.refl => obtain ⟨a, vs, e, _, _, h, h2⟩ := rep_lst (r.rep rfl); rw [e, emp h2]; exact .inl ⟨vs, SqL.of h, rfl⟩
  case own.refl => obtain ⟨a, vs, e, _, h, h2⟩ := rep_own r; rw [e, emp h2]; exact .inl ⟨vs, SqL.of h, rfl⟩
  case frz.refl => obtain ⟨a, vs, e, h, h2⟩ := rep_frz (r.rep rfl); rw [e, emp h2]; exact .inl ⟨vs, h.sq, rfl⟩
theorem atI_rep {ts : List D} {vs : List V} {i : Int} {t : D} (r : RepL K C M H ts vs) (e : atI ts i = some t) : ∃ v, atI vs i = some v ∧ Rep K C M H t v := by
  unfold atI at e ⊢
  rw [r.length]
  cases h : ixN ts.length i with
  | none => rw [h] at e; cases e
  | some j =>
    rw [h] at e
    obtain ⟨v, h1, h2⟩ := r.get (show ts[j]? = some t from e)
    exact ⟨v, h1, h2⟩
theorem idx_ok (p : Pre K Tb C M H δ) {x y z : D} {v u : V} {Q : VK} (e : idxD δ x y = some z) (rx : RepS K C M H x v) (ry : RepS K C M H y u) (q : ∀ w, Rep K C M H z w → Q w H) : rIx K v u H Q := by
  unfold idxD at e
  split at e
  · split at e
    · rename_i hl
      rw [Option.map_eq_some_iff] at e
      obtain ⟨c, e1, e2⟩ := e
      exact .inr (.inr ⟨_, _, c, rep_str (rx.rep rfl), rep_int (ry.rep rfl), by rw [← line_eq]; exact hl, e1, q _ (by rw [← e2]; exact mk_str)⟩)
    · cases e
  · rw [Option.bind_eq_some_iff] at e
    obtain ⟨ts, e1, e2⟩ := e
    obtain ⟨a, vs, h1, h2, h3⟩ := seqD_rep p e1 rx
    obtain ⟨w, h4, h5⟩ := atI_rep h3 e2
    rcases h2 with h2 | h2
    · exact .inl ⟨a, vs, _, w, h1, rep_int (ry.rep rfl), h2, h4, q w h5⟩
    · exact .inr (.inl ⟨a, vs, _, w, h1, rep_int (ry.rep rfl), h2, h4, q w h5⟩)
  · cases e
theorem cut_rep {ts : List D} {vs : List V} (lo hi : Option Int) (r : RepL K C M H ts vs) : RepL K C M H (cutD ts lo hi) (cutV vs lo hi) := by
  unfold cutD cutV
  rw [r.length]
  exact (r.drop _).take _
theorem cutD_all {ts : List D} {lo hi : Option Int} (h1 : HT.sIx ts.length 0 lo = 0) (h2 : HT.sIx ts.length ts.length hi = ts.length) : cutD ts lo hi = ts := by
  unfold cutD
  rw [h1, h2]
  simp
theorem slc_ok (p : Pre K Tb C M H δ) {x z : D} {lo hi : Option Int} {v : V} {Q : VK} {fr : Bool} (e : slcD δ x lo hi = some z) (rx : RepS K C M H x v) (q : Post K Tb fr C M H δ z Q) : rSl K v lo hi H Q := by
  unfold slcD at e
  split at e
  · cases e
    obtain ⟨a, vs, h1, h2, h3⟩ := rep_tup (rx.rep rfl)
    refine .inl ⟨a, vs, h1, h2, fun hw => ?_, fun _ => q.tup p (cut_rep lo hi h3)⟩
    rw [h3.length] at hw
    rw [cutD_all hw.1 hw.2] at q
    rw [← h1]
    exact q.hereN p (rx.rep rfl) (fun _ z => by cases z)
  · cases e
    obtain ⟨a, vs, h1, _, _, h2, h3⟩ := rep_lst (rx.rep rfl)
    exact .inr ⟨a, vs, h1, SqL.of h2, q.lst p (cut_rep lo hi h3)⟩
  · cases e
    obtain ⟨a, vs, h1, _, h2, h3⟩ := rep_own rx
    exact .inr ⟨a, vs, h1, SqL.of h2, q.lst p (cut_rep lo hi h3)⟩
  · cases e
    obtain ⟨a, vs, h1, h2, h3⟩ := rep_frz (rx.rep rfl)
    exact .inr ⟨a, vs, h1, h2.sq, q.lst p (cut_rep lo hi h3)⟩
  · rename_i k
    rw [Option.map_eq_some_iff] at e
    obtain ⟨ts, e1, e2⟩ := e
    subst e2
    obtain ⟨a, h1, h2⟩ := rep_cell (K := K) (M := M) (H := H) (rx.rep rfl)
    obtain ⟨b, vs, q1, q2, q3⟩ := p.cells k ts e1
    rw [h2] at q1; cases q1
    exact .inr ⟨a, vs, h1, SqL.of q2, q.lst p (cut_rep lo hi q3)⟩
  · cases e
end
end Mini

namespace PySem
open Sem (wp)
theorem meets_enum1B {v : Value} {o : Obj} {H : Heap → Prop} (B : Begins v o H) :
    Meets (Builtin.«enumerate.__new__» ⟨[.type "enumerate", v], []⟩) (fun _ R s => H s.heap ∧
      R (.ok (.ret (.ref (s.heap.push o).objs.size))) { s with heap := (s.heap.push o).push { cls := .type "enumerate", data := .fields #[.none, .bool false, .ref s.heap.objs.size, rawInt 0, .none, .none] } }) :=
  .of_wp fun prog w A R s h => by
    obtain ⟨hp, g, d, tk, os⟩ := s; obtain ⟨h1, h⟩ := h
    have hsub := sub_enumerate
    have q1 : ∀ {A' : Around} {E : Value → Shared → Prop} {Q : Value → Shared → Prop}, Q (.ref hp.objs.size) ⟨hp.push o, g, d, tk, os⟩ → wpAny (model prog w) A' (pyIter v) Q E ⟨hp, g, d, tk, os⟩ :=
      fun q => B.iter prog w _ _ ⟨hp, g, d, tk, os⟩ _ h1 q
    wp_walk using q1
    refine wpAny_stack_any fun st => wpAny_pure ?_
    split
    · rename_i c _ _ _ _ _
      cases (c == Value.type "enumerate")
      · wp_walk using q1
        exact ⟨_, rfl, h⟩
      · wp_walk using q1
        exact ⟨_, rfl, h⟩
    · wp_walk using q1
      exact ⟨_, rfl, h⟩
section
variable {prog : Program} {w : World} {A : Around} {E : Value → Shared → Prop} {s : Shared}
theorem enum1_begins {v : Value} {o : Obj} {H : Heap → Prop} {Q : Value → Shared → Prop} (B : Begins v o H) (h1 : H s.heap)
    (h : ∀ h', IsEnum h' (s.heap.objs.size + 1) s.heap.objs.size 0 .none → h'.get? s.heap.objs.size = some o → h'.objs.size = s.heap.objs.size + 2 →
      (∀ b o, s.heap.get? b = some o → h'.get? b = some o) → Q (.ref (s.heap.objs.size + 1)) { s with heap := h' }) :
    wpAny (model prog w) A (call (.type "enumerate") [v]) Q E s := by
  refine callType_new F.called_enumerate (by decide) (F.typeCall_enumerate_1 _) (F.newCall_enumerate_1 _) (fun obj => F.args_object_init_2 obj _) F.entry_enumerate_new
    (meets_enum1B B) ⟨h1, ?_⟩
  have hz : (s.heap.push o).objs.size = s.heap.objs.size + 1 := Heap.size_push ..
  show _ ∧ _
  rw [hz]
  have he : IsEnum ((s.heap.push o).push { cls := .type "enumerate", data := .fields #[.none, .bool false, .ref s.heap.objs.size, rawInt 0, .none, .none] }) (s.heap.objs.size + 1) s.heap.objs.size 0 .none := by
    have := Heap.get?_push_size (s.heap.push o) (o := { cls := .type "enumerate", data := .fields #[.none, .bool false, .ref s.heap.objs.size, rawInt 0, .none, .none] }) rfl
    rw [hz] at this; exact this
  refine ⟨⟨_, he, rfl⟩, h _ he (Heap.get?_push_of_some _ (Heap.get?_push_size _ B.free)) (by rw [Heap.size_push, hz]) fun b o x => Heap.get?_push_of_some _ (Heap.get?_push_of_some _ x)⟩
end
end PySem
namespace ET
open PySem PySem.Spec PyProof.Rows L2
def Itet (K : PySem.W.Frag) (a : Addr) : It :=
  ⟨fun i H => ∃ (xs : List V) (x : V), SqT K H a xs ∧ xs[i]? = some x, fun i H v H' => ∃ T x, v = .ref T ∧ H T = none ∧ H' = upd H T (.tup [.int (i : Nat), x]) ∧ ∀ xs, SqT K H a xs → xs[i]? = some x, fun i H => ∃ xs : List V, SqT K H a xs ∧ xs.length = i⟩
theorem turn_enumT {P : Program} {w : World} {K : PySem.W.Frag} {elts : List Expr} {kk : Nat} {tpos : Pos} (a e it : Addr) :
    Turn P w K (.Tuple elts kk tpos) (Itet K a) [e, it] e (fun i h => (∃ old, IsEnum h e it ((i : Nat) : Int) old) ∧ h.IsTupleIter it a i ∧ e ≠ it ∧ e ≠ a ∧ a ≠ it) where
  mem := by simp
  obj := fun i h st b hb => by
    obtain ⟨⟨old, he⟩, ⟨o, ho, hc, hd⟩, _⟩ := st
    have e' : b = e ∨ b = it := by simpa using hb
    rcases e' with z | z
    · rw [z]; exact ⟨_, he, fun v q => nomatch q⟩
    · rw [z]; exact ⟨o, ho, fun v q => by rw [hd] at q; cases q⟩
  keep := fun i h h' st k => let ⟨⟨old, he⟩, hi, hne⟩ := st; ⟨⟨old, k e (by simp) _ he⟩, hi.at fun o q => k it (by simp) o q, hne⟩
  item := by
    intro X hP hw hK hc i pins s σ H E I hf st hg
    subst hP hw hK
    obtain ⟨⟨old, he⟩, hit, hne, hea, hai⟩ := st
    obtain ⟨xs, x, hq, hx⟩ := hg
    obtain ⟨its, rv, p, hz⟩ := I.tuple hq
    obtain ⟨u, hu, ru⟩ := rv.get hx
    have hel : e < s.heap.objs.size := Heap.lt_size he
    have hil : it < s.heap.objs.size := by obtain ⟨_, q, _⟩ := hit; exact Heap.lt_size q
    have hlen : i < its.toArray.size := by
      have := (List.getElem?_eq_some_iff.mp hu).1
      simpa using this
    refine wpAny_pyNext_enum_itemD (Draws.tuple (show (X.A.in1).handled = none from I.ok.hd hc) it a hai its.toArray) he ⟨hit, p⟩ hlen hne (fun z => ?_) fun y h' tk hy ho hst hT hsz hk => ?_
    · rcases List.mem_cons.mp z with z | z
      · exact hne z
      · exact hea (List.mem_singleton.mp z)
    have ey : y = u := by
      rw [List.getElem?_toArray, hu] at hy
      exact (Option.some.inj hy).symm
    subst ey
    refine ⟨_, rfl, wpAny_letOwnedTupleGo_enum (s := { s with heap := h', toks := tk + 1 }) ho fun h'' he' sb => ?_⟩
    have hT2 : h''.get? s.heap.objs.size = some { cls := .type "tuple", data := .seq #[.int i tk, y] } := (sb.2 _ (Nat.ne_of_gt hel)).trans hT
    have new : ObjOk X.prog X.w (upd H s.heap.objs.size (.tup [.int (i : Nat), x])) h'' s.heap.objs.size (.tup [.int (i : Nat), x]) :=
      ⟨by show 2 ≤ sizeLine; decide, [.int i tk, y], .cons ⟨_, rfl⟩ (.cons ru .nil), ⟨_, hT2, rfl, _, rfl⟩⟩
    have I1 : Inv X pins σ (upd H s.heap.objs.size (.tup [.int (i : Nat), x])) { s with heap := h'', toks := tk + 1 } :=
      I.turnedNew (ch := [e, it]) (fun b ob hb q => (sb.2 b (fun z => hb (by simp [z]))).trans (hk b ob (fun z => hb (by simp [z])) (fun z => hb (by simp [z])) q)) hf (Nat.le_refl _) new
    refine ⟨.ref s.heap.objs.size, _, I1, rfl, ⟨_, x, rfl, I.hok.fresh (Nat.le_refl _), rfl, fun ys hy => by rw [I.tuple_inj hy hq]; exact hx⟩, ⟨⟨y, ?_⟩, hst.1.at fun o q => (sb.2 it (Ne.symm hne)).trans q, hne, hea, hai⟩, fun b hb => ?_⟩
    · have e1 : ((i + 1 : Nat) : Int) = (i : Int) + 1 := by omega
      rw [e1]; exact he'
    · have hb' : b < s.heap.objs.size := by
        have e' : b = e ∨ b = it := by simpa using hb
        rcases e' with z | z
        · rw [z]; exact hel
        · rw [z]; exact hil
      rw [upd_ne (Nat.ne_of_lt hb')]
      exact (hf b hb).1
  done := by
    intro X hP hw hK hc i pins s σ H E I hf st hg
    subst hP hw hK
    obtain ⟨⟨old, he⟩, hit, hne, hea, hai⟩ := st
    obtain ⟨xs, hq, hx⟩ := hg
    obtain ⟨its, rv, p, hz⟩ := I.tuple hq
    obtain ⟨f0, f1, f2, f3, f4, f5⟩ := hf it (by simp)
    have hl := rv.length
    have hi : i = its.toArray.size := by simp; omega
    rw [hi] at hit
    refine wpAny_pyNext_enum_endD (Draws.tuple (show (X.A.in1).handled = none from I.ok.hd hc) it a hai its.toArray) he ⟨hit, p⟩ fun h' eb => ⟨rfl, I.turned (t' := s.toks) (fun b o hb q => eb b o hb q) f0 f1 f3 f4 f5⟩
  self := fun A i s Q E st h => let ⟨⟨_, he⟩, _⟩ := st; wpAny_pyIter_enum he h

theorem pi_enumA {X : Cx} {e : Expr} {ta : TA} {p pos tpos : Pos} {elts : List Expr} {kk : Nat} (hg : Gl X "enumerate") (hm : X.mg "enumerate" = none) (ha : PA X [e] ta) (hs : starEach [e] X.env = [(false, eval e X.env)] := by rfl) :
    PI X (.Tuple elts kk tpos) (.Call (.Name "enumerate" p) [e] [] pos) (fun σ H R => ta σ H fun vs H1 => ∃ a xs, vs = [.ref a] ∧ ((SqL X.K H1 a xs ∧ R (Ite X.K a) H1) ∨ (SqT X.K H1 a xs ∧ R (Itet X.K a) H1))) := by
  refine ⟨fun pins s σ H R I h => ?_⟩
  refine Call_ (ld_blt I hg hm boot_enumerate (PyProof.Rows.callWith_type1 (thn (ha.run pos pins s σ H _ I h) fun us s1 ⟨vs, H1, I1, r1, q1⟩ => ?_) hs rfl))
  obtain ⟨a, xs, ex, q1⟩ := q1
  subst ex
  cases r1 with
  | cons r rr =>
    cases rr
    cases r
    rcases q1 with ⟨hq, q⟩ | ⟨hq, q⟩
    · obtain ⟨its, rv, p', hz⟩ := I1.list hq
      refine call_enumerate_list p'.isList fun h' he hit hsz hk => wpAny_pyIter_enum he ?_
      have I2 : Inv X pins σ H1 { s1 with heap := h' } := I1.kept (t' := s1.toks) hk
      refine ⟨s1.heap.objs.size + 1, [s1.heap.objs.size + 1, s1.heap.objs.size], _, _, H1, rfl, I2, turn_enum a (s1.heap.objs.size + 1) s1.heap.objs.size, ⟨⟨.none, he⟩, hit, Nat.succ_ne_self _⟩, fun b hb => ?_, q⟩
      have e' : b = s1.heap.objs.size + 1 ∨ b = s1.heap.objs.size := by simpa using hb
      have hle : s1.heap.objs.size ≤ b := by
        rcases e' with z | z
        · rw [z]; exact Nat.le_add_right _ _
        · rw [z]; exact Nat.le_refl _
      exact I1.fpOk hle (I1.hok.fresh hle)
    · obtain ⟨its, rv, p', hz⟩ := I1.tuple hq
      have hp : s1.heap.IsTuple a its.toArray := p'
      have hal : a < s1.heap.objs.size := by obtain ⟨_, q, _⟩ := hp; exact Heap.lt_size q
      refine enum1_begins (begins_tuple a its.toArray) hp fun h' he hit hsz hk => wpAny_pyIter_enum he ?_
      have I2 : Inv X pins σ H1 { s1 with heap := h' } := I1.kept (t' := s1.toks) hk
      refine ⟨s1.heap.objs.size + 1, [s1.heap.objs.size + 1, s1.heap.objs.size], _, _, H1, rfl, I2, turn_enumT a (s1.heap.objs.size + 1) s1.heap.objs.size, ⟨⟨.none, he⟩, ⟨_, hit, rfl, rfl⟩, Nat.succ_ne_self _, Nat.ne_of_gt (Nat.lt_succ_of_lt hal), Nat.ne_of_lt hal⟩, fun b hb => ?_, q⟩
      have e' : b = s1.heap.objs.size + 1 ∨ b = s1.heap.objs.size := by simpa using hb
      have hle : s1.heap.objs.size ≤ b := by
        rcases e' with z | z
        · rw [z]; exact Nat.le_add_right _ _
        · rw [z]; exact Nat.le_refl _
      exact I1.fpOk hle (I1.hok.fresh hle)
end ET

namespace Mini
open PySem PySem.Spec PyProof.Rows L2

def rowP (r : List Int) : PyData := .tuple (r.map .int)
def rMinR (K : PySem.W.Frag) : List V → Hp → VK → Prop := fun vs H Q => ∃ (a : Addr) (us : List V) (r : List Int) (rs : List (List Int)), vs = [V.ref a] ∧ SqL K H a us ∧ DpAll K H us ((r :: rs).map rowP) ∧
  ∀ (i : Nat) (v : V), us[i]? = some v → (r :: rs)[i]? = some (minRow r rs) → Q v H
theorem alike_ints : ∀ (a b : List Int), PySem.W.alikeAll (a.map .int) (b.map .int) = true
  | [], _ => by simp [PySem.W.alikeAll]
  | _ :: _, [] => by simp [PySem.W.alikeAll]
  | x :: a, y :: b => by
    rw [List.map_cons, List.map_cons, PySem.W.alikeAll, PySem.W.alike, alike_ints a b]; rfl
theorem rows_alike (rs : List (List Int)) : PySem.W.AlikeAll (rs.map rowP) := by
  refine ⟨fun x hx y hy => ?_, fun x hx z => ?_⟩
  · obtain ⟨a, _, rfl⟩ := List.mem_map.mp hx
    obtain ⟨b, _, rfl⟩ := List.mem_map.mp hy
    unfold rowP
    rw [PySem.W.alike]
    exact alike_ints a b
  · obtain ⟨a, _, rfl⟩ := List.mem_map.mp hx
    cases z
theorem depth_ints : ∀ a : List Int, PyData.depthAll (a.map .int) = 0
  | [] => by rw [List.map_nil, PyData.depthAll]
  | x :: a => by rw [List.map_cons, PyData.depthAll, depth_ints a, PyData.depth]; rfl
theorem depth_rows : ∀ rs : List (List Int), PyData.depthAll (rs.map rowP) ≤ 1
  | [] => by rw [List.map_nil, PyData.depthAll]; omega
  | r :: rs => by
    have := depth_rows rs
    have e : PyData.depth (rowP r) = 1 := by unfold rowP; rw [PyData.depth, depth_ints]
    rw [List.map_cons, PyData.depthAll, e]; omega
theorem dataLt_rows (a b : List Int) : PySem.W.dataLt (rowP a) (rowP b) = decide (a < b) := by
  rw [← PySem.W.dataLt_ints]
  unfold PySem.W.dataLt rowP PySem.W.rowLt
  rw [PySem.W.keyToks, PySem.W.keyToks]
theorem minD_rows (r : List Int) : ∀ rs : List (List Int), PySem.W.minD (rowP r) (rs.map rowP) = rowP (minRow r rs) := by
  intro rs
  induction rs generalizing r with
  | nil => rfl
  | cons y rs ih =>
    show (rs.map rowP).foldl _ (if PySem.W.dataLt (rowP y) (rowP r) = true then rowP y else rowP r) = rowP (rs.foldl _ (if y < r then y else r))
    rw [dataLt_rows]
    by_cases h : y < r
    · rw [if_pos (by simpa using h), if_pos h]
      exact ih y
    · rw [if_neg (by simpa using h), if_neg h]
      exact ih r
theorem rowP_inj {a b : List Int} (h : rowP a = rowP b) : a = b := by
  unfold rowP at h
  injection h with h
  exact (List.map_inj_right fun x y z => by injection z).mp h
theorem readsL_at {h : Heap} : ∀ {vs : List Value} {xs : List PyData} {as : List Addr}, ReadsAll h vs xs as → ∀ (i : Nat) (v : Value), vs[i]? = some v → ∃ x bs, xs[i]? = some x ∧ Reads h v x bs
  | _, _, _, .nil, _, _, hv => by simp at hv
  | _, _, _, .cons r rs, 0, v, hv => by
    have e := Option.some.inj (show some _ = some v from hv)
    subst e
    exact ⟨_, _, rfl, r⟩
  | _, _, _, .cons r rs, i + 1, v, hv => readsL_at rs i v (by simpa using hv)
theorem cr_minR {X : Cx} (hc : X.calm = true) (hu : X.A.units + 65 < cLine) : CallR X (.builtin "min") (rMinR X.K) := by
  intro pins s σ H vs us Q I r h
  obtain ⟨a, ws, r0, rs, rfl, hs, hd, q⟩ := h
  obtain ⟨its, rv, hl, _⟩ := I.list hs
  rw [Vals.ref1 r]
  obtain ⟨as, ra⟩ := Dp.readsAll I _ _ _ hd rv
  have dep := depth_rows (r0 :: rs)
  have ra' : ReadsAll s.heap its.toArray.toList (rowP r0 :: rs.map rowP) as := ra
  refine PySem.W.min_list_data (I.ok.hd hc) hl.isList ra' (rows_alike (r0 :: rs)) (by
    show _ + 1 + PyData.depthAll ((r0 :: rs).map rowP) < _
    omega) fun i v h' tk bs hv hr hk => ?_
  rw [minD_rows] at hr
  have hv' : its[i]? = some v := by simpa using hv
  obtain ⟨x, bs', hx, rx⟩ := readsL_at ra i v hv'
  have hx' : ((r0 :: rs).map rowP)[i]? = some x := hx
  rw [List.getElem?_map] at hx'
  obtain ⟨row, e1, e2⟩ := Option.map_eq_some_iff.mp hx'
  have e3 : rowP (minRow r0 rs) = x := (reads_det (h := s.heap) (h' := h') (fun b o e _ => hk b o e) rx hr).1
  have e4 : row = minRow r0 rs := rowP_inj (e2.trans e3.symm)
  obtain ⟨w, ew, rw_⟩ : ∃ w, ws[i]? = some w ∧ RelV w v := by
    have hl := rv.length
    have hi : i < its.length := (List.getElem?_eq_some_iff.mp hv').1
    have hi2 : i < ws.length := by omega
    obtain ⟨u, h1, h2⟩ := rv.get (List.getElem?_eq_getElem hi2)
    rw [hv'] at h1
    cases h1
    exact ⟨_, List.getElem?_eq_getElem hi2, h2⟩
  exact ⟨w, H, I.kept hk, rw_, q i w ew (by rw [e1, e4])⟩
def rBlt (K : PySem.W.Frag) : Blt → List V → Hp → VK → Prop
  | .abs => fun xs H Q => ∃ i, xs = [.int i] ∧ Q (.int (if i < 0 then -i else i)) H
  | .len => fun xs H Q => (∃ z, xs = [.str z] ∧ z.length ≤ sizeLine ∧ Q (.int z.length) H) ∨ ∃ p ys, xs = [.ref p] ∧ (SqL K H p ys ∨ SqT K H p ys) ∧ Q (.int ys.length) H
  | .int => fun xs H Q => (∃ i, xs = [.int i] ∧ Q (.int i) H) ∨ ∃ k, xs = [.bl k] ∧ Q (.int (if k then 1 else 0)) H
  | .bool => fun xs H Q => (∃ i, xs = [.int i] ∧ Q (.bl (i != 0)) H) ∨ ∃ k, xs = [.bl k] ∧ Q (.bl k) H
  | .tuple => fun xs H Q => ∃ p ys, xs = [.ref p] ∧ ((SqL K H p ys ∧ ∀ l, H l = none → Q (.ref l) (upd H l (.tup ys))) ∨ (SqT K H p ys ∧ Q (.ref p) H))
  | .list => fun xs H Q => ∃ p ys, xs = [.ref p] ∧ (SqL K H p ys ∨ SqT K H p ys) ∧ ∀ l, H l = none → Q (.ref l) (upd H l (.lst ys))
  | .max2 => fun xs H Q => ∃ i j, xs = [.int i, .int j] ∧ Q (.int (if j > i then j else i)) H
  | .min2 => fun xs H Q => ∃ i j, xs = [.int i, .int j] ∧ Q (.int (if j < i then j else i)) H
  | .sum => rSum K
  | .max3 => fun xs H Q => ∃ i j k, xs = [.int i, .int j, .int k] ∧ Q (.int (max i (max j k))) H
  | .maxl => rMax K
  | .minl => rMin K
  | .minr => rMinR K
  | .sorted => rSortedI K
  | .str => fun xs H Q => ∃ i, xs = [.int i] ∧ i.natAbs.log2 < 1920 ∧ Q (.str (toString i)) H
  | .isi => rIsi K
def bltV : Blt → Value
  | .abs => .builtin "abs"
  | .len => .builtin "len"
  | .int => .type "int"
  | .bool => .type "bool"
  | .tuple => .type "tuple"
  | .list => .type "list"
  | .max2 => .builtin "max"
  | .min2 => .builtin "min"
  | .sum => .builtin "sum"
  | .max3 => .builtin "max"
  | .maxl => .builtin "max"
  | .minl => .builtin "min"
  | .minr => .builtin "min"
  | .sorted => .builtin "sorted"
  | .str => .type "str"
  | .isi => .builtin "isinstance"
theorem call_max3 {X : Cx} (hc : X.calm = true) : CallR X (.builtin "max") (fun xs H Q => ∃ i j k, xs = [.int i, .int j, .int k] ∧ Q (.int (max i (max j k))) H) := by
  intro pins s σ H xs us Q I r h
  obtain ⟨i, j, k, rfl, q⟩ := h
  cases r with
  | cons r1 r =>
  cases r with
  | cons r2 r =>
  cases r with
  | cons r3 r =>
  cases r
  obtain ⟨t, rfl⟩ := r1
  obtain ⟨t', rfl⟩ := r2
  obtain ⟨t'', rfl⟩ := r3
  refine max_three_ints (I.ok.hd hc) fun h' tk k' => ⟨.int (max i (max j k)), H, I.kept k', ?_, q⟩
  split
  · split
    · exact ⟨t'', by congr 1; omega⟩
    · exact ⟨t', by congr 1; omega⟩
  · split
    · exact ⟨t'', by congr 1; omega⟩
    · exact ⟨t, by congr 1; omega⟩
theorem call_blt {X : Cx} (hc : X.calm = true) (hu : X.A.units + 65 < cLine) : ∀ b, CallR X (bltV b) (rBlt X.K b)
  | .abs => call_abs
  | .len => call_len_str.or call_len_seq
  | .int => call_int1
  | .bool => call_bool1
  | .tuple => call_tuple_of
  | .list => call_list_of
  | .max2 => call_max2 hc
  | .min2 => call_min2 hc
  | .sum => cr_sum hc
  | .max3 => call_max3 hc
  | .maxl => cr_max hc
  | .minl => cr_min hc
  | .minr => cr_minR hc hu
  | .sorted => cr_sortedI
  | .str => call_str_int
  | .isi => call_isi
theorem isi_table : ∀ a ∈ ["NoneType", "bool", "int", "str", "tuple", "list"], ∀ b ∈ ["bool", "int", "str", "tuple", "list"], kitB a b = some (a == b || (a == "bool" && b == "int")) := by decide +kernel
section
variable {K : PySem.W.Frag} {Tb : List (Addr × Str)} {C : List Addr} {M : Addr → Prop} {H : Hp} {δ : Dl}
theorem rsl1 {a : D} {vs : List V} (r : RSL K C M H [a] vs) : ∃ v, vs = [v] ∧ RepS K C M H a v := by
  obtain ⟨v, w, e, h1, h2⟩ := r
  rw [show w = [] from h2] at e
  exact ⟨v, e, h1⟩
theorem rsl2 {a b : D} {vs : List V} (r : RSL K C M H [a, b] vs) : ∃ v u, vs = [v, u] ∧ RepS K C M H a v ∧ RepS K C M H b u := by
  obtain ⟨v, w, e, h1, h2⟩ := r
  obtain ⟨u, e', h3⟩ := rsl1 h2
  exact ⟨v, u, by rw [e, e'], h1, h3⟩
theorem tyX_of (p : Pre K Tb C M H δ) {a : D} {t : String} {v : V} (e : tyName a = some t) (r : RepS K C M H a v) : TyX K H v (.type t) := by
  cases a <;> simp only [tyName] at e <;> first | cases e | skip
  case non.refl => rw [rep_non (r.rep rfl)]; exact .base .non
  case bl.refl b => rw [rep_bl (r.rep rfl)]; exact .base (.bl _)
  case int.refl => rw [rep_int (r.rep rfl)]; exact .base (.int _)
  case str.refl => rw [rep_str (r.rep rfl)]; exact .base (.str _)
  case tup.refl =>
    obtain ⟨a, vs, e, h, _⟩ := rep_tup (r.rep rfl)
    rw [e]
    rcases h with (h | ⟨o, h⟩) | ⟨o, its, n, h, hc, _⟩
    · exact .base (.tup h)
    · exact .fTuple h
    · exact .kTuple h hc
  case lst.refl => obtain ⟨a, vs, e, _, _, h, _⟩ := rep_lst (r.rep rfl); rw [e]; exact .base (.lst h)
  case own.refl => obtain ⟨a, vs, e, _, h, _⟩ := rep_own r; rw [e]; exact .base (.lst h)
theorem ints_rep : ∀ {ts : List D} {ns : List Int} {vs : List V}, intsOf ts = some ns → RepL K C M H ts vs → vs = ns.map V.int
  | [], ns, vs, e, r => by
    cases e
    unfold RepL at r
    exact r
  | .int i :: ts, ns, vs, e, r => by
    unfold intsOf at e
    rw [Option.map_eq_some_iff] at e
    obtain ⟨ms, e1, rfl⟩ := e
    unfold RepL at r
    obtain ⟨v, w, rfl, r1, r2⟩ := r
    rw [rep_int r1, ints_rep e1 r2]
    rfl
theorem ints_back : ∀ {ts : List D} {ns : List Int}, intsOf ts = some ns → ts = ns.map .int
  | [], ns, e => by cases e; rfl
  | t :: ts, ns, e => by
    cases t <;> first | (simp only [intsOf] at e; cases e; done) | skip
    case int i =>
    simp only [intsOf] at e
    cases q : intsOf ts with
    | none => rw [q] at e; cases e
    | some ms =>
      rw [q] at e
      cases e
      rw [ints_back q]; rfl
theorem rsl3 {a b c : D} {vs : List V} (r : RSL K C M H [a, b, c] vs) : ∃ v u w, vs = [v, u, w] ∧ RepS K C M H a v ∧ RepS K C M H b u ∧ RepS K C M H c w := by
  obtain ⟨v, w, e, h1, h2⟩ := r
  obtain ⟨u, x, e', h3, h4⟩ := rsl2 h2
  exact ⟨v, u, x, by rw [e, e'], h1, h3, h4⟩
theorem max_is {ns : List Int} {m x : Int} (h : ns.max? = some x) (hm : m ∈ ns) (hy : ∀ y, y ∈ ns → y ≤ m) : m = x := by
  obtain ⟨h1, h2⟩ := List.max?_eq_some_iff.mp h
  have a := hy x h1
  have b := h2 m hm
  omega
theorem min_is {ns : List Int} {m x : Int} (h : ns.min? = some x) (hm : m ∈ ns) (hy : ∀ y, y ∈ ns → m ≤ y) : m = x := by
  obtain ⟨h1, h2⟩ := List.min?_eq_some_iff.mp h
  have a := hy x h1
  have b := h2 m hm
  omega
theorem sort_is {ns ns' : List Int} (hp : ns'.Perm ns) (hs : ns'.Pairwise (· ≤ ·)) : ns' = sortI ns := by
  refine List.Perm.eq_of_pairwise (le := (· ≤ ·)) (fun a b _ _ h1 h2 => by omega) hs ?_ (hp.trans (List.mergeSort_perm ns _).symm)
  exact (List.pairwise_mergeSort (le := fun a b : Int => decide (a ≤ b)) (fun a b c h1 h2 => by simp at h1 h2 ⊢; omega) (fun a b => by simp; omega) ns).imp fun h => by simpa using h
theorem repL_sorted : ∀ ns : List Int, RepL K C M H (ns.map .int) (ns.map V.int)
  | [] => repL_nil
  | n :: ns => repL_cons mk_int (repL_sorted ns)
theorem dp_ints : ∀ ns : List Int, DpAll K H (ns.map V.int) (ns.map PyData.int)
  | [] => .nil
  | n :: ns => .cons (.int n) (dp_ints ns)
theorem rows_rep : ∀ {ts : List D} {rows : List (List Int)} {vs : List V}, rowsOf ts = some rows → RepL K C M H ts vs → DpAll K H vs (rows.map rowP) ∧ ∀ (i : Nat) (v : V) (r : List Int), vs[i]? = some v → rows[i]? = some r → Rep K C M H (.tup (r.map .int)) v
  | [], rows, vs, e, r => by
    cases e
    have : vs.length = 0 := r.length
    rw [List.length_eq_zero_iff.mp this]
    exact ⟨.nil, fun i v r h => by simp at h⟩
  | t :: ts, rows, vs, e, r => by
    cases t <;> first | (simp only [rowsOf] at e; cases e; done) | skip
    case tup us =>
    unfold rowsOf at e
    split at e
    · rename_i n ns e1 e2
      cases e
      unfold RepL at r
      obtain ⟨v, vs', rfl, r1, r2⟩ := r
      obtain ⟨k1, k2⟩ := rows_rep e2 r2
      have r1' := r1
      obtain ⟨a, ws, ev, hs, hr⟩ := rep_tup r1
      have ew := ints_rep e1 hr
      have eu : us = n.map D.int := ints_back e1
      refine ⟨.cons (by rw [ev]; exact .tup hs (by rw [ew]; exact dp_ints n)) k1, fun i w r h1 h2 => ?_⟩
      cases i with
      | zero =>
        cases h1
        cases h2
        rw [← eu]
        exact r1'
      | succ i => exact k2 i w r h1 h2
    · cases e
theorem blt_ok (p : Pre K Tb C M H δ) {b : Blt} {ds : List D} {z : D} {vs : List V} {Q : VK} {fr : Bool} (e : bltD δ b ds = some z) (r : RSL K C M H ds vs) (q : Post K Tb fr C M H δ z Q) : rBlt K b vs H Q := by
  unfold bltD at e
  split at e
  · cases e
    obtain ⟨v, rfl, h⟩ := rsl1 r
    exact ⟨_, by rw [rep_int (h.rep rfl)], q.hereN p mk_int (fun _ z => by cases z)⟩
  · split at e
    · rename_i hl
      cases e
      obtain ⟨v, rfl, h⟩ := rsl1 r
      exact .inl ⟨_, by rw [rep_str (h.rep rfl)], by rw [← line_eq]; exact hl, q.hereN p mk_int (fun _ z => by cases z)⟩
    · cases e
  · rw [Option.map_eq_some_iff] at e
    obtain ⟨ts, e1, e2⟩ := e
    obtain ⟨v, rfl, h⟩ := rsl1 r
    obtain ⟨a, ws, h1, h2, h3⟩ := seqD_rep p e1 h
    refine .inr ⟨a, ws, by rw [h1], h2, ?_⟩
    rw [h3.length]
    subst e2
    exact q.hereN p mk_int (fun _ z => by cases z)
  · cases e
    obtain ⟨v, rfl, h⟩ := rsl1 r
    exact .inl ⟨_, by rw [rep_int (h.rep rfl)], q.hereN p mk_int (fun _ z => by cases z)⟩
  · cases e
    obtain ⟨v, rfl, h⟩ := rsl1 r
    exact .inr ⟨_, by rw [rep_bl (h.rep rfl)], q.hereN p mk_int (fun _ z => by cases z)⟩
  · cases e
    obtain ⟨v, rfl, h⟩ := rsl1 r
    exact .inl ⟨_, by rw [rep_int (h.rep rfl)], q.hereN p mk_bl (fun _ z => by cases z)⟩
  · cases e
    obtain ⟨v, rfl, h⟩ := rsl1 r
    exact .inr ⟨_, by rw [rep_bl (h.rep rfl)], q.hereN p mk_bl (fun _ z => by cases z)⟩
  · rw [Option.map_eq_some_iff] at e
    obtain ⟨ts, e1, e2⟩ := e
    subst e2
    obtain ⟨v, rfl, h⟩ := rsl1 r
    obtain ⟨a, ws, h1, h2, h3⟩ := seqD_rep p e1 h
    refine ⟨a, ws, by rw [h1], ?_⟩
    rcases h2 with h2 | h2
    · exact .inl ⟨h2, q.tup p h3⟩
    · exact .inr ⟨h2, q.hereN p (mk_tup h2 h3) (fun _ z => by cases z)⟩
  · rw [Option.map_eq_some_iff] at e
    obtain ⟨ts, e1, e2⟩ := e
    subst e2
    obtain ⟨v, rfl, h⟩ := rsl1 r
    obtain ⟨a, ws, h1, h2, h3⟩ := seqD_rep p e1 h
    exact ⟨a, ws, by rw [h1], h2, q.lst p h3⟩
  · cases e
    obtain ⟨v, u, rfl, h, h'⟩ := rsl2 r
    exact ⟨_, _, by rw [rep_int (h.rep rfl), rep_int (h'.rep rfl)], q.hereN p mk_int (fun _ z => by cases z)⟩
  · cases e
    obtain ⟨v, u, rfl, h, h'⟩ := rsl2 r
    exact ⟨_, _, by rw [rep_int (h.rep rfl), rep_int (h'.rep rfl)], q.hereN p mk_int (fun _ z => by cases z)⟩
  · cases e
    obtain ⟨v, u, w, rfl, h, h', h''⟩ := rsl3 r
    exact ⟨_, _, _, by rw [rep_int (h.rep rfl), rep_int (h'.rep rfl), rep_int (h''.rep rfl)], q.hereN p mk_int (fun _ z => by cases z)⟩
  · rw [Option.map_eq_some_iff] at e
    obtain ⟨ns, e1, e2⟩ := e
    subst e2
    obtain ⟨v, rfl, h⟩ := rsl1 r
    obtain ⟨a, ws, e, h1, h2⟩ := mlst_rep h (.inl rfl)
    have := ints_rep e1 h2
    subst this
    exact ⟨a, ns, by rw [e], SqL.of h1, q.hereN p mk_int (fun _ z => by cases z)⟩
  · rw [Option.bind_eq_some_iff] at e
    obtain ⟨ns, e1, e2⟩ := e
    rw [Option.map_eq_some_iff] at e2
    obtain ⟨x, e2, e3⟩ := e2
    subst e3
    obtain ⟨v, rfl, h⟩ := rsl1 r
    obtain ⟨a, ws, e, h1, h2⟩ := mlst_rep h (.inl rfl)
    have := ints_rep e1 h2
    subst this
    refine ⟨a, ns, by rw [e], SqL.of h1, ?_, fun m hm hy => ?_⟩
    · exact List.length_pos_iff.mpr fun z => by rw [z] at e2; cases e2
    · rw [max_is e2 hm hy]
      exact q.hereN p mk_int (fun _ z => by cases z)
  · rw [Option.bind_eq_some_iff] at e
    obtain ⟨ns, e1, e2⟩ := e
    rw [Option.map_eq_some_iff] at e2
    obtain ⟨x, e2, e3⟩ := e2
    subst e3
    obtain ⟨v, rfl, h⟩ := rsl1 r
    obtain ⟨a, ws, e, h1, h2⟩ := mlst_rep h (.inl rfl)
    have := ints_rep e1 h2
    subst this
    refine ⟨a, ns, by rw [e], SqL.of h1, ?_, fun m hm hy => ?_⟩
    · exact List.length_pos_iff.mpr fun z => by rw [z] at e2; cases e2
    · rw [min_is e2 hm hy]
      exact q.hereN p mk_int (fun _ z => by cases z)
  · rw [Option.bind_eq_some_iff] at e
    obtain ⟨rows, e1, e2⟩ := e
    cases rows with
    | nil => cases e2
    | cons r0 rs =>
      cases e2
      obtain ⟨v, rfl, h⟩ := rsl1 r
      obtain ⟨a, ws, e, h1, h2⟩ := mlst_rep h (.inl rfl)
      obtain ⟨k1, k2⟩ := rows_rep e1 h2
      refine ⟨a, ws, r0, rs, by rw [e], SqL.of h1, k1, fun i w hw hr => ?_⟩
      have := k2 i w _ hw hr
      exact q.hereN p this (fun _ z => by cases z)
  · rw [Option.map_eq_some_iff] at e
    obtain ⟨ns, e1, e2⟩ := e
    subst e2
    obtain ⟨v, rfl, h⟩ := rsl1 r
    obtain ⟨a, ws, e, h1, h2⟩ := mlst_rep h (.inl rfl)
    have := ints_rep e1 h2
    subst this
    refine ⟨a, ns, by rw [e], SqL.of h1, fun ns' l hp hs => ?_⟩
    rw [sort_is hp hs]
    exact q.lst p (repL_sorted _) l
  · rw [Option.map_eq_some_iff] at e
    obtain ⟨ns, e1, e2⟩ := e
    subst e2
    obtain ⟨v, rfl, h⟩ := rsl1 r
    obtain ⟨a, ws, e, h1, h2⟩ := mlst_rep h (.inr rfl)
    have := ints_rep e1 h2
    subst this
    refine ⟨a, ns, by rw [e], SqL.of h1, fun ns' l hp hs => ?_⟩
    rw [sort_is hp hs]
    exact q.lst p (repL_sorted _) l
  · split at e
    · rename_i hl
      cases e
      obtain ⟨v, rfl, h⟩ := rsl1 r
      refine ⟨_, by rw [rep_int (h.rep rfl)], ?_, q.hereN p mk_str (fun _ z => by cases z)⟩
      have := PySem.Flt.log2_lt_of (show 0 < 1000 by decide) (of_decide_eq_true hl)
      omega
    · cases e
  · rw [Option.bind_eq_some_iff] at e
    obtain ⟨t, e1, e2⟩ := e
    rw [Option.map_eq_some_iff] at e2
    obtain ⟨k, e2, e3⟩ := e2
    subst e3
    obtain ⟨v, u, rfl, h, h'⟩ := rsl2 r
    unfold isiT at e2
    split at e2
    · rename_i hc
      rw [Bool.and_eq_true, List.contains_iff_mem, List.contains_iff_mem] at hc
      have kb := isi_table t hc.1 _ hc.2
      rw [e2] at kb
      exact ⟨v, u, .type t, .type _, k, rfl, by rw [rep_ty (h'.rep rfl)]; exact .ty _, tyX_of p e1 h, kit_ty kb, q.hereN p mk_bl (fun _ z => by cases z)⟩
    · cases e2
  · cases e

def iK (K : PySem.W.Frag) : IK → List V → Hp → (It → Hp → Prop) → Prop
  | .seq => fun vs H R => ∃ a, vs = [.ref a] ∧ (((∃ xs, SqL K H a xs) ∧ R (Itl K a) H) ∨ ((∃ xs, SqT K H a xs) ∧ R (Itt K a) H))
  | .rng1 => fun vs H R => ∃ j : Int, vs = [.int j] ∧ -(2 ^ 62) ≤ j ∧ j < 2 ^ 62 ∧ R (Itr 0 j.toNat) H
  | .rng2 => fun vs H R => ∃ i j : Int, vs = [.int i, .int j] ∧ (-(2 ^ 62) ≤ i ∧ i < 2 ^ 62 ∧ -(2 ^ 62) ≤ j ∧ j < 2 ^ 62) ∧ R (Itr i (j - i).toNat) H
  | .rng3 => fun vs H R => ∃ (i j c : Int) (n : Nat), vs = [.int i, .int j, .int c] ∧ RgC i j c n ∧ R (Itc i c n) H
  | .zip => fun vs H R => ∃ a b xs ys, vs = [.ref a, .ref b] ∧ ((SqL K H a xs ∧ SqL K H b ys ∧ R (Itz K a b) H) ∨ (SqT K H a xs ∧ SqT K H b ys ∧ R (RZ.ItzT K a b) H))
  | .enum => fun vs H R => ∃ a xs, vs = [.ref a] ∧ ((SqL K H a xs ∧ R (Ite K a) H) ∨ (SqT K H a xs ∧ R (ET.Itet K a) H))
  | .rev => fun vs H R => ∃ a xs, vs = [.ref a] ∧ ((SqL K H a xs ∧ R (Itv K a xs.length) H) ∨ (SqT K H a xs ∧ R (RT.ItvT K a xs.length) H))
def Wk (K : PySem.W.Frag) (Tb : List (Addr × Str)) (J : It) (Gh : List (D × V)) (xs : List D) : Prop :=
  ∀ C M H δ, Pre K Tb C M H δ → (∀ g, g ∈ Gh → Rep K C M H g.1 g.2) → (∀ i, i < xs.length → J.go i H) ∧ J.stop xs.length H ∧
    ∀ i x H', i < xs.length → J.yld i H x H' → ∃ t, xs[i]? = some t ∧ Le C H C H' ∧ Pre K Tb C M H' δ ∧ Rep K C M H' t x
theorem rng_get {c : Int} : ∀ (n : Nat) (lo : Int) (i : Nat), i < n → (rngFrom lo c n)[i]? = some (.int (lo + (i : Int) * c))
  | 0, _, _, h => by omega
  | n + 1, lo, 0, _ => by simp [rngFrom]
  | n + 1, lo, i + 1, h => by
    show (rngFrom (lo + c) c n)[i]? = _
    rw [rng_get n (lo + c) i (by omega)]
    congr 2
    rw [Int.natCast_add, Int.add_mul]
    omega
theorem rng_len {c : Int} : ∀ (n : Nat) (lo : Int), (rngFrom lo c n).length = n
  | 0, _ => rfl
  | n + 1, lo => by show (rngFrom (lo + c) c n).length + 1 = n + 1; rw [rng_len n]
theorem enum_get : ∀ (ts : List D) (k i : Nat), (enumFrom k ts)[i]? = ts[i]?.map fun t => D.tup [.int ((k + i : Nat) : Int), t]
  | [], k, i => by simp [enumFrom]
  | t :: ts, k, 0 => by simp [enumFrom]
  | t :: ts, k, i + 1 => by
    show (enumFrom (k + 1) ts)[i]? = _
    rw [enum_get ts (k + 1) i]
    simp only [List.getElem?_cons_succ]
    rw [show k + 1 + i = k + (i + 1) by omega]
theorem enum_len : ∀ (ts : List D) (k : Nat), (enumFrom k ts).length = ts.length
  | [], _ => rfl
  | t :: ts, k => by show (enumFrom (k + 1) ts).length + 1 = _; rw [enum_len ts]; rfl
theorem wk_range {lo : Int} {n : Nat} : Wk K Tb (Itr lo n) [] (rngFrom lo 1 n) := by
  intro C M H δ p _
  rw [rng_len]
  refine ⟨fun i hi => hi, Nat.le_refl _, fun i x H' hi y => ?_⟩
  obtain ⟨e1, e2⟩ := y
  subst e1 e2
  exact ⟨_, rng_get n lo i hi, Le.refl C _, p, by rw [Int.mul_one]; exact mk_int⟩
theorem wk_rangeC {lo c : Int} {n : Nat} : Wk K Tb (Itc lo c n) [] (rngFrom lo c n) := by
  intro C M H δ p _
  rw [rng_len]
  refine ⟨fun i hi => hi, Nat.le_refl _, fun i x H' hi y => ?_⟩
  obtain ⟨e1, e2⟩ := y
  subst e1 e2
  exact ⟨_, rng_get n lo i hi, Le.refl C _, p, mk_int⟩
theorem lst_get {a : Addr} {ts : List D} (r : Rep K C M H (.lst ts) (.ref a)) : ∃ vs, SqL K H a vs ∧ RepL K C M H ts vs ∧ H a = some (.lst vs) := by
  obtain ⟨b, vs, e, _, _, h, h2⟩ := rep_lst r
  cases e
  exact ⟨vs, SqL.of h, h2, h⟩
theorem frz_get {a : Addr} {ts : List D} (r : Rep K C M H (.frz ts) (.ref a)) : ∃ vs, SqL K H a vs ∧ RepL K C M H ts vs := by
  obtain ⟨b, vs, e, h, h2⟩ := rep_frz r
  cases e
  exact ⟨vs, h.sq, h2⟩
theorem tup_get {a : Addr} {ts : List D} (r : Rep K C M H (.tup ts) (.ref a)) : ∃ vs, SqT K H a vs ∧ RepL K C M H ts vs := by
  obtain ⟨b, vs, e, h, h2⟩ := rep_tup r
  cases e
  exact ⟨vs, h, h2⟩
theorem wk_list {a : Addr} {ts : List D} {d : D} (hd : d = .lst ts ∨ d = .frz ts) : Wk K Tb (Itl K a) [(d, .ref a)] ts := by
  intro C M H δ p hg
  obtain ⟨vs, h, r⟩ : ∃ vs, SqL K H a vs ∧ RepL K C M H ts vs := by
    have := hg _ (List.mem_singleton.mpr rfl)
    rcases hd with hd | hd <;> subst hd
    · obtain ⟨vs, h1, h2, _⟩ := lst_get this; exact ⟨vs, h1, h2⟩
    · exact frz_get this
  have hl := r.length
  refine ⟨fun i hi => ?_, ⟨vs, h, by omega⟩, fun i x H' hi y => ?_⟩
  · obtain ⟨v, e, _⟩ := r.get (List.getElem?_eq_getElem hi)
    exact ⟨vs, v, h, e⟩
  · obtain ⟨e1, e2⟩ := y
    subst e1
    obtain ⟨v, e, rv⟩ := r.get (List.getElem?_eq_getElem hi)
    have := e2 vs h
    rw [e] at this; cases this
    exact ⟨_, List.getElem?_eq_getElem hi, Le.refl C _, p, rv⟩
theorem wk_tup {a : Addr} {ts : List D} : Wk K Tb (Itt K a) [(.tup ts, .ref a)] ts := by
  intro C M H δ p hg
  obtain ⟨vs, h, r⟩ := tup_get (hg _ (List.mem_singleton.mpr rfl))
  have hl := r.length
  refine ⟨fun i hi => ?_, ⟨vs, h, by omega⟩, fun i x H' hi y => ?_⟩
  · obtain ⟨v, e, _⟩ := r.get (List.getElem?_eq_getElem hi)
    exact ⟨vs, v, h, e⟩
  · obtain ⟨e1, e2⟩ := y
    subst e1
    obtain ⟨v, e, rv⟩ := r.get (List.getElem?_eq_getElem hi)
    have := e2 vs h
    rw [e] at this; cases this
    exact ⟨_, List.getElem?_eq_getElem hi, Le.refl C _, p, rv⟩
theorem pair_new (p : Pre K Tb C M H δ) {s t : D} {x y : V} {T : Addr} (hT : H T = none) (r1 : Rep K C M H s x) (r2 : Rep K C M H t y) :
    Le C H C (upd H T (.tup [x, y])) ∧ Pre K Tb C M (upd H T (.tup [x, y])) δ ∧ Rep K C M (upd H T (.tup [x, y])) (.tup [s, t]) (.ref T) := p.newTup (repL_cons r1 (.one r2)) hT
theorem wk_enum {a : Addr} {ts : List D} : Wk K Tb (Ite K a) [(.lst ts, .ref a)] (enumFrom 0 ts) := by
  intro C M H δ p hg
  obtain ⟨vs, h, r, _⟩ := lst_get (hg _ (List.mem_singleton.mpr rfl))
  have hl := r.length
  rw [enum_len]
  refine ⟨fun i hi => ?_, ⟨vs, h, by omega⟩, fun i x H' hi y => ?_⟩
  · obtain ⟨v, e, _⟩ := r.get (List.getElem?_eq_getElem hi)
    exact ⟨vs, v, h, e⟩
  · obtain ⟨T, w, e0, hT, e1, e2⟩ := y
    subst e1 e0
    obtain ⟨v, e, rv⟩ := r.get (List.getElem?_eq_getElem hi)
    have := e2 vs h
    rw [e] at this; cases this
    refine ⟨.tup [.int (i : Int), ts[i]], ?_, pair_new p hT mk_int rv⟩
    rw [enum_get, List.getElem?_eq_getElem hi]
    simp
theorem wk_enumT {a : Addr} {ts : List D} : Wk K Tb (ET.Itet K a) [(.tup ts, .ref a)] (enumFrom 0 ts) := by
  intro C M H δ p hg
  obtain ⟨vs, h, r⟩ := tup_get (hg _ (List.mem_singleton.mpr rfl))
  have hl := r.length
  rw [enum_len]
  refine ⟨fun i hi => ?_, ⟨vs, h, by omega⟩, fun i x H' hi y => ?_⟩
  · obtain ⟨v, e, _⟩ := r.get (List.getElem?_eq_getElem hi)
    exact ⟨vs, v, h, e⟩
  · obtain ⟨T, w, e0, hT, e1, e2⟩ := y
    subst e1 e0
    obtain ⟨v, e, rv⟩ := r.get (List.getElem?_eq_getElem hi)
    have := e2 vs h
    rw [e] at this; cases this
    refine ⟨.tup [.int (i : Int), ts[i]], ?_, pair_new p hT mk_int rv⟩
    rw [enum_get, List.getElem?_eq_getElem hi]
    simp
theorem zip_get {ta tb : List D} {i : Nat} {x y : D} (h1 : ta[i]? = some x) (h2 : tb[i]? = some y) : (zipD ta tb)[i]? = some (.tup [x, y]) := by
  unfold zipD
  rw [List.getElem?_map, List.getElem?_zip_eq_some (z := (x, y)) |>.mpr ⟨h1, h2⟩]
  rfl
theorem wk_zipL {a b : Addr} {ta tb : List D} : Wk K Tb (Itz K a b) [(.lst ta, .ref a), (.lst tb, .ref b)] (zipD ta tb) := by
  intro C M H δ p hg
  obtain ⟨vs, h, r, _⟩ := lst_get (hg (.lst ta, .ref a) (by simp))
  obtain ⟨ws, h', r', _⟩ := lst_get (hg (.lst tb, .ref b) (by simp))
  have hl := r.length
  have hl' := r'.length
  have hz : (zipD ta tb).length = min ta.length tb.length := by unfold zipD; simp
  rw [hz]
  refine ⟨fun i hi => ?_, ⟨vs, ws, h, h', by omega⟩, fun i x H' hi y => ?_⟩
  · obtain ⟨v, e, _⟩ := r.get (List.getElem?_eq_getElem (show i < ta.length by omega))
    obtain ⟨u, e', _⟩ := r'.get (List.getElem?_eq_getElem (show i < tb.length by omega))
    exact ⟨vs, ws, v, u, h, h', e, e'⟩
  · obtain ⟨T, w, w', e0, hT, e1, e2, e3⟩ := y
    subst e1 e0
    obtain ⟨v, e, rv⟩ := r.get (List.getElem?_eq_getElem (show i < ta.length by omega))
    obtain ⟨u, e', ru⟩ := r'.get (List.getElem?_eq_getElem (show i < tb.length by omega))
    have := e2 vs h
    rw [e] at this; cases this
    have := e3 ws h'
    rw [e'] at this; cases this
    exact ⟨_, zip_get (List.getElem?_eq_getElem (show i < ta.length by omega)) (List.getElem?_eq_getElem (show i < tb.length by omega)), pair_new p hT rv ru⟩
theorem wk_zipT {a b : Addr} {ta tb : List D} : Wk K Tb (RZ.ItzT K a b) [(.tup ta, .ref a), (.tup tb, .ref b)] (zipD ta tb) := by
  intro C M H δ p hg
  obtain ⟨vs, h, r⟩ := tup_get (hg (.tup ta, .ref a) (by simp))
  obtain ⟨ws, h', r'⟩ := tup_get (hg (.tup tb, .ref b) (by simp))
  have hl := r.length
  have hl' := r'.length
  have hz : (zipD ta tb).length = min ta.length tb.length := by unfold zipD; simp
  rw [hz]
  refine ⟨fun i hi => ?_, ⟨vs, ws, h, h', by omega⟩, fun i x H' hi y => ?_⟩
  · obtain ⟨v, e, _⟩ := r.get (List.getElem?_eq_getElem (show i < ta.length by omega))
    obtain ⟨u, e', _⟩ := r'.get (List.getElem?_eq_getElem (show i < tb.length by omega))
    exact ⟨vs, ws, v, u, h, h', e, e'⟩
  · obtain ⟨T, w, w', e0, hT, e1, e2, e3⟩ := y
    subst e1 e0
    obtain ⟨v, e, rv⟩ := r.get (List.getElem?_eq_getElem (show i < ta.length by omega))
    obtain ⟨u, e', ru⟩ := r'.get (List.getElem?_eq_getElem (show i < tb.length by omega))
    have := e2 vs h
    rw [e] at this; cases this
    have := e3 ws h'
    rw [e'] at this; cases this
    exact ⟨_, zip_get (List.getElem?_eq_getElem (show i < ta.length by omega)) (List.getElem?_eq_getElem (show i < tb.length by omega)), pair_new p hT rv ru⟩
theorem rev_get {ts : List D} {i : Nat} (hi : i < ts.length) : ts.reverse[i]? = ts[ts.length - 1 - i]? := List.getElem?_reverse hi
theorem wk_revL {a : Addr} {ts : List D} {n : Nat} (hn : n = ts.length) : Wk K Tb (Itv K a n) [(.lst ts, .ref a)] ts.reverse := by
  intro C M H δ p hg
  obtain ⟨vs, h, r, _⟩ := lst_get (hg _ (List.mem_singleton.mpr rfl))
  have hl := r.length
  rw [List.length_reverse]
  have w : Walk (Itv K a vs.length) vs.length (fun H => SqL K H a vs) (fun i H x H' => H' = H ∧ vs[vs.length - 1 - i]? = some x) := walk_rev
  have hn' : n = vs.length := by rw [hn, hl]
  subst hn'
  refine ⟨fun i hi => w.goes i H (by omega) h, by rw [← hl]; exact w.stops H h, fun i x H' hi y => ?_⟩
  obtain ⟨e1, e2⟩ := w.yields i H x H' (by omega) h y
  subst e1
  obtain ⟨v, e, rv⟩ := r.get (List.getElem?_eq_getElem (show ts.length - 1 - i < ts.length by omega))
  rw [hl, e] at e2; cases e2
  exact ⟨_, by rw [rev_get hi]; exact List.getElem?_eq_getElem (show ts.length - 1 - i < ts.length by omega), Le.refl C _, p, rv⟩
theorem wk_revT {a : Addr} {ts : List D} {n : Nat} (hn : n = ts.length) : Wk K Tb (RT.ItvT K a n) [(.tup ts, .ref a)] ts.reverse := by
  intro C M H δ p hg
  obtain ⟨vs, h, r⟩ := tup_get (hg _ (List.mem_singleton.mpr rfl))
  have hl := r.length
  rw [List.length_reverse]
  subst hn
  refine ⟨fun i hi => ?_, Nat.le_refl _, fun i x H' hi y => ?_⟩
  · obtain ⟨v, e, _⟩ := r.get (List.getElem?_eq_getElem (show ts.length - 1 - i < ts.length by omega))
    exact ⟨hi, vs, v, h, e⟩
  · obtain ⟨e1, e2⟩ := y
    subst e1
    obtain ⟨v, e, rv⟩ := r.get (List.getElem?_eq_getElem (show ts.length - 1 - i < ts.length by omega))
    have := e2 vs h
    rw [e] at this; cases this
    exact ⟨_, by rw [rev_get hi]; exact List.getElem?_eq_getElem (show ts.length - 1 - i < ts.length by omega), Le.refl C _, p, rv⟩
theorem rOk_of {i : Int} (h : rOk i = true) : -(2 ^ 62) ≤ i ∧ i < 2 ^ 62 := by
  unfold rOk at h
  rw [Bool.and_eq_true] at h
  exact ⟨of_decide_eq_true h.1, of_decide_eq_true h.2⟩
theorem items_ok {k : IK} {ds xs : List D} {vs : List V} (e : itemsD δ k ds = some xs) (r : RSL K C M H ds vs) :
    ∃ Gh J, (∀ g, g ∈ Gh → Rep K C M H g.1 g.2) ∧ Wk K Tb J Gh xs ∧ ∀ R : It → Hp → Prop, R J H → iK K k vs H R := by
  unfold itemsD at e
  split at e
  · cases e
    obtain ⟨v, rfl, h⟩ := rsl1 r
    obtain ⟨a, ws, e, h1, h2⟩ := rep_tup (h.rep rfl)
    subst e
    exact ⟨_, _, fun g hg => by rw [List.mem_singleton.mp hg]; exact h.rep rfl, wk_tup, fun R q => ⟨a, rfl, .inr ⟨⟨ws, h1⟩, q⟩⟩⟩
  · cases e
    obtain ⟨v, rfl, h⟩ := rsl1 r
    obtain ⟨a, ws, e, _, _, h1, h2⟩ := rep_lst (h.rep rfl)
    subst e
    exact ⟨_, _, fun g hg => by rw [List.mem_singleton.mp hg]; exact h.rep rfl, wk_list (.inl rfl), fun R q => ⟨a, rfl, .inl ⟨⟨ws, SqL.of h1⟩, q⟩⟩⟩
  · cases e
    obtain ⟨v, rfl, h⟩ := rsl1 r
    obtain ⟨a, ws, e, h1, h2⟩ := rep_frz (h.rep rfl)
    subst e
    exact ⟨_, _, fun g hg => by rw [List.mem_singleton.mp hg]; exact h.rep rfl, wk_list (.inr rfl), fun R q => ⟨a, rfl, .inl ⟨⟨ws, h1.sq⟩, q⟩⟩⟩
  · split at e
    · rename_i hr
      cases e
      obtain ⟨v, rfl, h⟩ := rsl1 r
      have := rOk_of hr
      exact ⟨[], _, fun g hg => absurd hg (by simp), wk_range, fun R q => ⟨_, by rw [rep_int (h.rep rfl)], this.1, this.2, q⟩⟩
    · cases e
  · split at e
    · rename_i hr
      cases e
      rw [Bool.and_eq_true] at hr
      obtain ⟨v, u, rfl, h, h'⟩ := rsl2 r
      have h1 := rOk_of hr.1
      have h2 := rOk_of hr.2
      exact ⟨[], _, fun g hg => absurd hg (by simp), wk_range, fun R q => ⟨_, _, by rw [rep_int (h.rep rfl), rep_int (h'.rep rfl)], ⟨h1.1, h1.2, h2.1, h2.2⟩, q⟩⟩
    · cases e
  · split at e
    · rename_i a b c hr
      cases e
      rw [Bool.and_eq_true, Bool.and_eq_true] at hr
      have h1 := rOk_of hr.1.1
      have h2 := rOk_of hr.1.2
      have h3 : c = -1 := of_decide_eq_true hr.2
      subst h3
      obtain ⟨v, r1, rfl, q1, h⟩ : ∃ v r, vs = v :: r ∧ RepS K C M H (.int a) v ∧ RSL K C M H [.int b, .int (-1)] r := r
      obtain ⟨u, z, rfl, q2, q3⟩ := rsl2 h
      exact ⟨[], _, fun g hg => absurd hg (by simp), wk_rangeC, fun R q => ⟨a, b, -1, _, by rw [rep_int (q1.rep rfl), rep_int (q2.rep rfl), rep_int (q3.rep rfl)], RgC.neg h1.1 h1.2 h2.1 h2.2, q⟩⟩
    · cases e
  · cases e
    obtain ⟨v, u, rfl, h, h'⟩ := rsl2 r
    obtain ⟨a, ws, e, h1, h2⟩ := rep_tup (h.rep rfl)
    obtain ⟨b, ws', e', h1', h2'⟩ := rep_tup (h'.rep rfl)
    subst e e'
    refine ⟨_, _, fun g hg => ?_, wk_zipT (a := a) (b := b), fun R q => ⟨a, b, ws, ws', rfl, .inr ⟨h1, h1', q⟩⟩⟩
    rcases List.mem_cons.mp hg with e | hg
    · rw [e]; exact h.rep rfl
    · rw [List.mem_singleton.mp hg]; exact h'.rep rfl
  · cases e
    obtain ⟨v, u, rfl, h, h'⟩ := rsl2 r
    obtain ⟨a, ws, e, _, _, h1, h2⟩ := rep_lst (h.rep rfl)
    obtain ⟨b, ws', e', _, _, h1', h2'⟩ := rep_lst (h'.rep rfl)
    subst e e'
    refine ⟨_, _, fun g hg => ?_, wk_zipL (a := a) (b := b), fun R q => ⟨a, b, ws, ws', rfl, .inl ⟨SqL.of h1, SqL.of h1', q⟩⟩⟩
    rcases List.mem_cons.mp hg with e | hg
    · rw [e]; exact h.rep rfl
    · rw [List.mem_singleton.mp hg]; exact h'.rep rfl
  · cases e
    obtain ⟨v, rfl, h⟩ := rsl1 r
    obtain ⟨a, ws, e, _, _, h1, h2⟩ := rep_lst (h.rep rfl)
    subst e
    exact ⟨_, _, fun g hg => by rw [List.mem_singleton.mp hg]; exact h.rep rfl, wk_enum, fun R q => ⟨a, ws, rfl, .inl ⟨SqL.of h1, q⟩⟩⟩
  · cases e
    obtain ⟨v, rfl, h⟩ := rsl1 r
    obtain ⟨a, ws, e, h1, h2⟩ := rep_tup (h.rep rfl)
    subst e
    exact ⟨_, _, fun g hg => by rw [List.mem_singleton.mp hg]; exact h.rep rfl, wk_enumT, fun R q => ⟨a, ws, rfl, .inr ⟨h1, q⟩⟩⟩
  · cases e
    obtain ⟨v, rfl, h⟩ := rsl1 r
    obtain ⟨a, ws, e, _, _, h1, h2⟩ := rep_lst (h.rep rfl)
    subst e
    exact ⟨_, _, fun g hg => by rw [List.mem_singleton.mp hg]; exact h.rep rfl, wk_revL h2.length, fun R q => ⟨a, ws, rfl, .inl ⟨SqL.of h1, q⟩⟩⟩
  · cases e
    obtain ⟨v, rfl, h⟩ := rsl1 r
    obtain ⟨a, ws, e, h1, h2⟩ := rep_tup (h.rep rfl)
    subst e
    exact ⟨_, _, fun g hg => by rw [List.mem_singleton.mp hg]; exact h.rep rfl, wk_revT h2.length, fun R q => ⟨a, ws, rfl, .inr ⟨h1, q⟩⟩⟩
  · cases e
end
end Mini

namespace GX
open PySem PySem.Spec PyProof.Rows L2 LamX GenW
abbrev gEnv (X : Cx) (scope : Scope) (C : Addr) (code : Value) : Env := genEnv scope (cloFrom X.env.cells scope.names []) C code builtinsNs X.env
abbrev gCx (X : Cx) (A : Around) (s : Shared) (H : Hp) (ge : Env) (fp : List Addr) : Cx :=
  { X with A := A, s_0 := s, H_0 := H, env := ge, outer := X.stack, stack := ge :: X.stack, ex := fp, fn := fun _ => false, calm := true, pn := [], xe := fun _ _ => False }
section
variable {X : Cx} {pins : List (Addr × Obj)} {σ : L2.St} {H : Hp} {s : Shared}
theorem gen_start {A : Around} {scope : Scope} {own : List (Str × Nat)} {fp : List Addr} {code : Value} {h₁ : Heap} {m0 : Str → Option Value} {g1 : Array GenState} {d1 : Drawn} {t1 : Nat} (I : Inv X pins σ H s) (ok : BlkOk X.N X.env.scope scope own) (nc : ∀ y ∈ scope.names, y.2 ≠ .cell) (hN : X.N.Nodup)
    (hfp : ∀ b ∈ fp, FpOk X pins H b ∧ b < s.heap.objs.size) (hA : A.handled = none) (hF : A.frames = some (gEnv X scope s.heap.objs.size code :: X.stack)) (hns : h₁.Ns s.heap.objs.size m0) (kp : ∀ b o, s.heap.get? b = some o → h₁.get? b = some o) (hg : AllBare g1) :
    Inv (gCx X A s H (gEnv X scope s.heap.objs.size code) fp) [] (wipe σ (own.map (·.2))) H { s with heap := h₁, gens := g1, drawn := d1, toks := t1 } := by
  have hfree : ∀ y ∈ scope.names, y.2 = .free → ∃ c, X.env.cells.lookup y.1 = some c := fun y hy e => by
    rcases ok.free y hy e with k | k
    · exact I.ok.has _ (.inl k)
    · exact I.ok.has _ (.inr k)
  have cm : ∀ {y c}, (cloFrom X.env.cells scope.names []).lookup y = some c → X.env.cells.lookup y = some c := fun {y c} e => by
    rcases cloFrom_mem (PySem.mem_of_lookup e) with hm | ⟨h1, h2⟩
    · cases hm
    · obtain ⟨c1, hc⟩ := hfree _ h1 rfl
      have hc : X.env.cells.lookup y = some c1 := hc
      have e2 : c = c1 := by
        rw [h2, hc] <;> rfl
      rw [e2]
      exact hc
  have look : ∀ {y}, scope.names.lookup y = some .free → ∃ c, (cloFrom X.env.cells scope.names []).lookup y = some c := fun {y} hl => by
    have hy : (y, NameKind.free) ∈ scope.names := PySem.mem_of_lookup hl
    exact mem_lookup (cloFrom_has (cells := X.env.cells) (acc := []) hy)
  have okB : (gCx X A s H (gEnv X scope s.heap.objs.size code) fp).Ok := by
    refine ⟨I.ok.mod, ok.kind, I.ok.glob, rfl, Nat.le_refl _, fun y z c e1 e2 => I.ok.inj y z c (cm e1) (cm e2), fun y hy => ?_, fun y c z _ => ?_, fun _ => hA, hF, .inr ⟨rfl, rfl⟩, fun b hb => ⟨Nat.ne_of_lt (hfp b hb).2, fun y c e => (hfp b hb).1.2.2.2.2.1 y c (cm e)⟩,
      I.bs, Nat.le_trans I.ok.bsz I.sz, fun b o e hb => ?_, fun b hb z => ?_, I.stack, I.stkFree⟩
    · have hy : scope.names.lookup y = some .cell ∨ scope.names.lookup y = some .free := hy
      rcases hy with hy | hy
      · exact absurd rfl (nc _ (PySem.mem_of_lookup hy))
      · exact look hy
    · have z : false = true := z
      cases z
    · rcases (hfp b hb).1.2.2.2.1 with z | z
      · exact I.ok.noex b o e z
      · exact absurd (Nat.lt_of_lt_of_le (Heap.lt_size e) (Nat.le_trans I.ok.bsz z)) (Nat.lt_irrefl _)
    · rcases List.mem_cons.mp (I.stkSub b z) with z | z
      · exact (hfp b hb).1.2.1 z
      · exact (hfp b hb).1.2.2.1 z
  refine ⟨okB, rfl, hg, Un.kept kp, ⟨m0, hns, fun i y av e1 e2 e3 => ?_⟩, fun y c e => ?_, I.hok.fresh (Nat.le_refl _), fun y c e => I.freeC y c (cm e), fun p hp => absurd (show p ∈ ([] : List (Addr × Obj)) ++ [] from hp) (by simp), I.hok.kept kp, by rw [wipe_length]; exact I.len⟩
  · obtain ⟨e2, hne⟩ := wipe_some e2
    have e3 : Vis scope y := e3
    have no : ∀ k, scope.names.lookup y = some k → ¬ (k = .local ∨ k = .cell) := fun k e hh => by
      rcases ok.own _ (PySem.mem_of_lookup e) hh with e' | e'
      · obtain ⟨p, hp, hpy⟩ := List.mem_map.mp e'
        have e3 := ok.ix p hp
        have : p.1 = y := hpy
        rw [this] at e3
        exact hne (List.mem_map.mpr ⟨p, hp, nodup_ix hN e3 e1⟩)
      · exact e' (List.mem_of_getElem? e1)
    have hfr : scope.names.lookup y = some .free := by
      rcases e3 with e3 | e3 | e3
      · exact absurd (.inl rfl) (no _ e3)
      · exact absurd (.inr rfl) (no _ e3)
      · exact e3
    obtain ⟨m, hn, hl⟩ := I.loc
    have hvis : Vis X.env.scope y := (ok.free _ (PySem.mem_of_lookup hfr) rfl).elim (fun k => .inr (.inl k)) (fun k => .inr (.inr k))
    obtain ⟨w, r, q⟩ := hl i y av e1 e2 hvis
    refine ⟨w, r, .inr ⟨.inr hfr, ?_⟩⟩
    obtain ⟨c, h1⟩ := look hfr
    refine ⟨c, h1, ?_⟩
    rcases q with ⟨k, _⟩ | ⟨_, c', e', z⟩
    · have k : X.env.scope.names.lookup y = some .local := k
      rcases ok.free _ (PySem.mem_of_lookup hfr) rfl with k' | k' <;> rw [show X.env.scope.names.lookup y = _ from k'] at k <;> cases k
    · rw [cm h1] at e'; cases e'
      exact z.keeps kp
  · obtain ⟨w, z⟩ := I.cell y c (cm e)
    exact ⟨w, z.keeps kp⟩
end

section
variable {X : Cx} {pins : List (Addr × Obj)} {σ : L2.St} {H : Hp} {s : Shared}
theorem inv_more {s' : Shared} (I : Inv X pins σ H s) (ho : s'.os = s.os) (k : ∀ b o, s.heap.get? b = some o → s'.heap.get? b = some o) (hg : AllBare s'.gens) : Inv X pins σ H s' :=
  I.call' (ch := []) ho (Un.kept k) (I.hok.kept k) hg fun b hb => absurd hb (by simp)
def Turns (b : Bool) (J : It) (g : TG) (tt : TT) (te : TE) (σw : L2.St) (vs : List Nat) (Q : VK) (W : Nat → Nat → Hp → Prop) : Prop :=
  ∀ i m H, W i m H → (J.stop i H ∧ Q (.bl !b) H) ∨ (J.go i H ∧ ∃ Nx : Hp → Prop, (∀ H', Nx H' → ∃ m', m' < m ∧ W (i + 1) m' H') ∧ ∀ x H', J.yld i H x H' → g x σw H' fun σ2 H2 => wipe σ2 vs = σw ∧ tt σ2 H2 fun k H3 =>
    if k = true then te σ2 H3 fun y H4 => ∃ r, y = .bl r ∧ (if r = b then Q (.bl b) H4 else Nx H4) else Nx H3)
def EndR (X : Cx) (a : Addr) (go : Obj) (b : Bool) (Q : VK) : Nat → Shared → Shared → Prop := fun _ _ s₁ => ∃ σ' H', Inv X [(a, go)] σ' H' s₁ ∧ Q (.bl !b) H'
def YieldY (X : Cx) (a : Addr) (go : Obj) (gn : Nat) (b : Bool) (Q : VK) : Protocol := fun _ _ v s₁ kap => ∃ r, v = .bool r ∧ AllBare s₁.gens ∧ s₁.heap.NoLimit ∧ s₁.heap.IsGen a gn ∧
  (r = b → ∃ σ' H', Inv X [(a, go)] σ' H' s₁ ∧ Q (.bl b) H') ∧ (r ≠ b → ∀ s', s'.os = s₁.os → AllBare s'.gens → (∀ x o, s₁.heap.get? x = some o → s'.heap.get? x = some o) → kap (.send .none) s')
abbrev loopC (elt tg iter : Expr) (ifs : List Expr) (scope : Scope) (pos : Pos) (it : Addr) (env : Env) : Code := .compLoop (.GeneratorExp elt [⟨tg, iter, ifs, 0⟩] scope pos) 0 (.ref it) .none env
end
section
variable {X : Cx} {elt tg iter : Expr} {ifs : List Expr} {scope : Scope} {pos : Pos} {it a : Addr} {fp : List Addr} {tn : Nat → Heap → Prop} {J : It} {σw : L2.St} {vs : List Nat} {go : Obj} {gn : Nat} {g : TG} {tt : TT} {te : TE} {b : Bool} {Q : VK} {W : Nat → Nat → Hp → Prop} {A : Around}
theorem seg_gx (hA : X.A = A.over (loopC elt tg iter ifs scope pos it X.env) []) (hc : X.calm = true) (hpn : X.pn = []) (hxe : X.xe = fun _ _ => False) (hco : X.env.scope.isCoroutine = false) (hgo : ∀ h : Heap, h.get? a = some go → h.IsGen a gn) (T : Turn X.prog X.w X.K tg J fp it tn) (hex : ∀ b ∈ fp, b ∈ X.ex) (hafp : ∀ b ∈ fp, a ≠ b)
    (pg : PG X tg g) (pt : PTs X ifs tt) (pe : PE X elt te) (hvs : ∀ σ' : L2.St, wipe σ' vs = σw → σw.length = σ'.length ∧ ∀ (j : Nat) (v : V), σw[j]? = some (some v) → σ'[j]? = some (some v)) (turn : Turns b J g tt te σw vs Q W) :
    ∀ (m n i : Nat) (s₀ s : Shared) (H : Hp), m < n → W i m H → Inv X [(a, go)] σw H s → tn i s.heap → (∀ b ∈ fp, H b = none) →
      Seg (model X.prog X.w) A (fun n s₀ r s₁ => r = .ok .next ∧ EndR X a go b Q n s₀ s₁) (YieldY X a go gn b Q) n s₀ (loopC elt tg iter ifs scope pos it X.env) ((model X.prog X.w).den (loopC elt tg iter ifs scope pos it X.env)) [] s := by
  have stat : ∀ {σ' : L2.St} {H' : Hp} {s' : Shared}, Inv X [(a, go)] σ' H' s' → (∀ b ∈ fp, H' b = none) → ∀ b ∈ fp, FpOk X [(a, go)] H' b := fun {σ' H' s'} I' hn b hb =>
    ⟨hn b hb, (I'.ok.exf b (hex b hb)).1, I'.ok.exfs b (hex b hb), .inl (hex b hb), fun x c e => (I'.ok.exf b (hex b hb)).2 x c e, fun p hp => by
      rw [hpn, List.nil_append] at hp
      rw [List.mem_singleton.mp hp]
      exact hafp b hb⟩
  intro m
  induction m using Nat.strongRecOn with
  | ind m ih =>
    intro n i s₀ s H hmn hw I hst hn
    show Seg _ A _ _ _ s₀ _ ((compTurn (.GeneratorExp elt [⟨tg, iter, ifs, 0⟩] scope pos) 0 (.ref it) .none X.env).onRaise (leaving X.env)) [] s
    rw [compTurn_gen, Sem.onRaise_eq_wrap]
    refine seg_bind_wrap (wpAny_standAt ?_)
    rcases turn i m H hw with ⟨stop, hq⟩ | ⟨hgo2, Nx, hNx, step⟩
    · refine seg_bind_wrap ?_
      rw [← hA]
      refine thnF (T.done X rfl rfl rfl hc i [(a, go)] s σw H (fun _ _ => False) I (stat I hn) hst stop) fun r s1 ⟨hr, I1⟩ => ?_
      subst hr
      exact seg_end (.ok .next) ⟨rfl, σw, H, I1, hq⟩
    · refine seg_bind_wrap ?_
      rw [← hA]
      refine thnF (T.item X rfl rfl rfl hc i [(a, go)] s σw H (fun _ _ => False) I (stat I hn) hst hgo2) fun r s1 ⟨u, hr, h6⟩ => ?_
      subst hr
      refine seg_bind_wrap ?_
      rw [← hA]
      refine thnF h6 fun _ s7 ⟨x, H7, I7, r7, y7, st7, n7⟩ => ?_
      have I7' := I7.pinned (stat I7 n7) (T.obj _ _ st7)
      refine seg_bind_wrap ?_
      rw [← hA]
      have e1 := pg.run _ s7 _ H7 x u _ I7' r7 (step x H7 y7)
      rw [hxe] at e1
      refine thnF e1 fun _ s8 ⟨σ8, H8, I8, hw8, q8⟩ => ?_
      refine seg_bind_wrap ?_
      rw [← hA]
      have e2 := pt.run _ s8 σ8 H8 _ I8 q8
      rw [hxe] at e2
      refine thnF e2 fun k s9 ⟨H9, I9, q9⟩ => ?_
      -- the turn's end
      obtain ⟨hl, hwk⟩ := hvs σ8 hw8
      have fin : ∀ {s' : Shared} {H' : Hp}, Inv X ([(a, go)] ++ pinsAt fp s7.heap) σ8 H' s' → Inv X [(a, go)] σw H' s' ∧ tn (i + 1) s'.heap ∧ ∀ b ∈ fp, H' b = none := fun {s' H'} I' => by
        have pin' : ∀ b ∈ fp, ∀ o, s7.heap.get? b = some o → s'.heap.get? b = some o ∧ H' b = none := fun b hb o e =>
          let z := I'.pin (b, o) (List.mem_append_right _ (List.mem_append_right _ (mem_pinsAt hb e)))
          ⟨z.1, z.2.1⟩
        refine ⟨(I'.unpinned (pins := [(a, go)])).weak hl fun j v e => hwk j v e, T.keep _ _ _ st7 fun b hb o e => (pin' b hb o e).1, fun b hb => ?_⟩
        obtain ⟨o, e, _⟩ := T.obj _ _ st7 b hb
        exact (pin' b hb o e).2
      cases k with
      | false =>
        simp only [Bool.false_eq_true, if_false] at q9 ⊢
        obtain ⟨m', hm, w'⟩ := hNx _ q9
        obtain ⟨J1, J2, J3⟩ := fin I9
        exact seg_again rfl (ih m' hm n (i + 1) s₀ s9 H9 (by omega) w' J1 J2 J3)
      | true =>
        simp only [if_true] at q9 ⊢
        have hy : ∀ v, yieldOut X.env v = yieldValue v := fun v => by simp only [yieldOut, hco, Bool.false_eq_true, if_false]
        simp only [hy]
        rw [Sem.bind_eq_wrap', Sem.bind_eq_wrap', Sem.wrap_wrap, Sem.wrap_wrap]
        have e3 := pe.run _ s9 σ8 H9 _ I9 q9
        rw [hxe] at e3
        refine seg_wrap ?_
        rw [← hA]
        refine thnF e3 fun z s10 ⟨yv, H10, I10, r10, r, ey, q10⟩ => ?_
        subst ey
        obtain rfl : z = Value.bool r := r10
        obtain ⟨J1, J2, J3⟩ := fin I10
        have gi : s10.heap.IsGen a gn := hgo _ (J1.pin (a, go) (List.mem_append_right _ (List.mem_singleton.mpr rfl))).1
        by_cases hr : r = b
        · rw [if_pos hr] at q10
          cases n with
          | zero => omega
          | succ n =>
            refine seg_at (seg_yield rfl rfl rfl ⟨r, rfl, J1.bare, J1.nolimit, gi, fun _ => ⟨σw, H10, J1, q10⟩, fun h => absurd hr h⟩)
        · rw [if_neg hr] at q10
          obtain ⟨m', hm, w'⟩ := hNx _ q10
          cases n with
          | zero => omega
          | succ n =>
            refine seg_at (seg_yield rfl rfl rfl ⟨r, rfl, J1.bare, J1.nolimit, gi, fun h => absurd h hr, fun _ s' ho hb hk => ?_⟩)
            refine seg_again rfl (ih m' hm n (i + 1) s' s' H10 (by omega) w' (inv_more J1 ho hk hb) (T.keep _ _ _ J2 fun b _ o e => hk b o e) J3)
end

section
variable {X : Cx} {elt tg iter : Expr} {ifs : List Expr} {scope : Scope} {pos : Pos} {it a : Addr} {fp : List Addr} {tn : Nat → Heap → Prop} {J : It} {σw : L2.St} {vs : List Nat} {go : Obj} {gn : Nat} {g : TG} {tt : TT} {te : TE} {b : Bool} {Q : VK} {W : Nat → Nat → Hp → Prop} {A : Around}
theorem seg_gxStart (hA : X.A = A.over (loopC elt tg iter ifs scope pos it X.env) []) (hc : X.calm = true) (hpn : X.pn = []) (hxe : X.xe = fun _ _ => False) (hco : X.env.scope.isCoroutine = false) (hgo : ∀ h : Heap, h.get? a = some go → h.IsGen a gn) (T : Turn X.prog X.w X.K tg J fp it tn) (hex : ∀ b ∈ fp, b ∈ X.ex) (hafp : ∀ b ∈ fp, a ≠ b)
    (pg : PG X tg g) (pt : PTs X ifs tt) (pe : PE X elt te) (hvs : ∀ σ' : L2.St, wipe σ' vs = σw → σw.length = σ'.length ∧ ∀ (j : Nat) (v : V), σw[j]? = some (some v) → σ'[j]? = some (some v)) (turn : Turns b J g tt te σw vs Q W)
    {m n : Nat} {s₀ s : Shared} {H : Hp} (hmn : m < n) (hw : W 0 m H) (I : Inv X [(a, go)] σw H s) (hst : tn 0 s.heap) (hn : ∀ b ∈ fp, H b = none) :
    Seg (model X.prog X.w) A (fun n s₀ r s₁ => r = .ok .next ∧ EndR X a go b Q n s₀ s₁) (YieldY X a go gn b Q) n s₀ (.compStart (.GeneratorExp elt [⟨tg, iter, ifs, 0⟩] scope pos) 0 (.ref it) .none X.env) ((model X.prog X.w).den (.compStart (.GeneratorExp elt [⟨tg, iter, ifs, 0⟩] scope pos) 0 (.ref it) .none X.env)) [] s := by
  have loop := seg_gx (elt := elt) (iter := iter) (scope := scope) (pos := pos) hA hc hpn hxe hco hgo T hex hafp pg pt pe hvs turn m n 0 s₀ s H hmn hw I hst hn
  show Seg _ A _ _ _ s₀ _ ((compStart (.GeneratorExp elt [⟨tg, iter, ifs, 0⟩] scope pos) 0 (.ref it) .none X.env).onRaise (leaving X.env)) [] s
  unfold compStart
  rw [Sem.onRaise_eq_wrap]
  show Seg _ A _ _ _ s₀ _ ((ask >>= _).wrap _ _ _ _) [] s
  refine seg_bind_wrap (wpAny_askSetting ?_)
  split
  · exact seg_again rfl loop
  · first
      | exact seg_bind_wrap (wpAny_rule (seg_bind_wrap (wpAny_standAt (seg_bind_wrap (T.self _ 0 s _ _ hst (seg_again rfl loop))))))
      | (refine seg_bind_wrap (wpAny_rule ?_); show Seg _ A _ _ _ s₀ _ ((standAt iter.pos >>= _).wrap _ _ _ _) [] s; exact seg_bind_wrap (wpAny_standAt (seg_bind_wrap (T.self _ 0 s _ _ hst (seg_again rfl loop)))))
end
section
variable {X : Cx} {a : Addr} {go : Obj} {gn : Nat} {b : Bool} {Q : VK} {A : Around} {R : Result → Shared → Prop}
def loopId (b : Bool) : String := if b = true then "any.loop" else "all.loop"
theorem consume (hh : A.handled = none) (hroom : A.depth < recursionLimit)
    (hR : ∀ (k : Bool) (σ' : L2.St) (H' : Hp) (s' : Shared), Inv X [(a, go)] σ' H' s' → Q (.bl k) H' → R (.ok (.ret (.bool k))) s') :
    ∀ (n : Nat) (s : Shared), s.heap.IsGen a gn → s.heap.NoLimit →
      (∃ gs, s.gens[gn]? = some gs ∧ gs.Goes (model X.prog X.w) A.in1.in1 (fun n s₀ r s₁ => r = .ok .next ∧ EndR X a go b Q n s₀ s₁) (YieldY X a go gn b Q) n (.send .none) (s.setGen gn .running)) →
      codeAny (model X.prog X.w) A (.builtin (loopId b) ⟨[.ref a], []⟩) R s := by
  have fin : ∀ s₁, EndR X a go b Q 0 s₁ s₁ → ∀ h', (∀ x o, s₁.heap.get? x = some o → h'.get? x = some o) → R (.ok (.ret (.bool !b))) { s₁.setGen gn .finished with heap := h' } := fun s₁ ⟨σ', H', I, q⟩ h' hk =>
    hR _ σ' H' _ (inv_more (s' := { s₁.setGen gn .finished with heap := h' }) I rfl hk (allBare_setGen I.bare rfl)) q
  intro n
  induction n with
  | zero =>
    intro s hg hl ⟨gs, hgs, hgo⟩
    cases b with
    | false =>
      refine codeAny_builtin F.entry_all_loop ?_
      rw [show loopId false = "all.loop" from rfl, Around.under_plainId F.plain_all_loop _]
      show wpAny _ A.in1 (pyNext (.ref a) >>= _) _ _ s
      refine wpAny_bind ((wpAny_pyNext_genexpQ (A := A.in1) (P := EndR X a go false Q) hh hl hroom hg hgs hgo (fun v s₁ gs' hb hv => ?_) (fun s₁ hp h' hk => ?_)))
      · skip
        obtain ⟨r, rfl, hbr, hl1, hg1, h1, h2⟩ := hv
        refine wpAny_bind (wpAny_holding (wpAny_truthy_bool ?_))
        refine wpAny_bind (wpAny_letGo ?_)
        cases r with
        | false =>
          simp only [Bool.false_eq_true, if_false]
          refine wpAny_bind (wpAny_rule (wpAny_pure ?_))
          obtain ⟨σ', H', I, q⟩ := h1 rfl
          exact hR false σ' H' _ (inv_more (s' := s₁.setGen gn gs') I rfl (fun _ _ e => e) (allBare_setGen I.bare hb)) q
        | true =>
          simp only [if_true]
          exact (h2 (by decide) s₁ rfl hbr (fun _ _ e => e)).elim
      · skip
        refine wpAny_bind (wpAny_rule (wpAny_pure ?_))
        exact fin s₁ hp h' hk
    | true =>
      refine codeAny_builtin F.entry_any_loop ?_
      rw [show loopId true = "any.loop" from rfl, Around.under_plainId F.plain_any_loop _]
      show wpAny _ A.in1 (pyNext (.ref a) >>= _) _ _ s
      refine wpAny_bind ((wpAny_pyNext_genexpQ (A := A.in1) (P := EndR X a go true Q) hh hl hroom hg hgs hgo (fun v s₁ gs' hb hv => ?_) (fun s₁ hp h' hk => ?_)))
      · skip
        obtain ⟨r, rfl, hbr, hl1, hg1, h1, h2⟩ := hv
        refine wpAny_bind (wpAny_holding (wpAny_truthy_bool ?_))
        refine wpAny_bind (wpAny_letGo ?_)
        cases r with
        | false =>
          simp only [Bool.false_eq_true, if_false]
          exact (h2 (by decide) s₁ rfl hbr (fun _ _ e => e)).elim
        | true =>
          simp only [if_true]
          refine wpAny_bind (wpAny_rule (wpAny_pure ?_))
          obtain ⟨σ', H', I, q⟩ := h1 rfl
          exact hR true σ' H' _ (inv_more (s' := s₁.setGen gn gs') I rfl (fun _ _ e => e) (allBare_setGen I.bare hb)) q
      · skip
        refine wpAny_bind (wpAny_rule (wpAny_pure ?_))
        exact fin s₁ hp h' hk
  | succ n ih =>
    intro s hg hl ⟨gs, hgs, hgo⟩
    have hgl : gn < s.gens.size := (Array.getElem?_eq_some_iff.mp hgs).1
    cases b with
    | false =>
      refine codeAny_builtin F.entry_all_loop ?_
      rw [show loopId false = "all.loop" from rfl, Around.under_plainId F.plain_all_loop _]
      show wpAny _ A.in1 (pyNext (.ref a) >>= _) _ _ s
      refine wpAny_bind (wpAny_gsz (n := gn + 1) hgl (wpAny_pyNext_genexpQ (A := A.in1) (P := EndR X a go false Q) hh hl hroom hg hgs hgo (fun v s₁ gs' hb hv => ?_) (fun s₁ hp h' hk => ?_)))
      · intro hsz
        obtain ⟨r, rfl, hbr, hl1, hg1, h1, h2⟩ := hv
        refine wpAny_bind (wpAny_holding (wpAny_truthy_bool ?_))
        refine wpAny_bind (wpAny_letGo ?_)
        cases r with
        | false =>
          simp only [Bool.false_eq_true, if_false]
          refine wpAny_bind (wpAny_rule (wpAny_pure ?_))
          obtain ⟨σ', H', I, q⟩ := h1 rfl
          exact hR false σ' H' _ (inv_more (s' := s₁.setGen gn gs') I rfl (fun _ _ e => e) (allBare_setGen I.bare hb)) q
        | true =>
          simp only [if_true]
          refine wpAny_pure ⟨plainId_quiet F.plain_all_loop _, ?_⟩
          have hsz1 : gn < s₁.gens.size := by
            have q : (s₁.setGen gn gs').gens.size = s₁.gens.size := setGen_size _ _ _
            have hsz' : gn + 1 ≤ (s₁.setGen gn gs').gens.size := hsz
            omega
          exact ih (s₁.setGen gn gs') hg1 hl1 ⟨gs', setGen_at hsz1, h2 (by decide) ((s₁.setGen gn gs').setGen gn .running) rfl (allBare_setGen (allBare_setGen hbr hb) rfl) (fun _ _ e => e)⟩
      · intro hsz
        refine wpAny_bind (wpAny_rule (wpAny_pure ?_))
        exact fin s₁ hp h' hk
    | true =>
      refine codeAny_builtin F.entry_any_loop ?_
      rw [show loopId true = "any.loop" from rfl, Around.under_plainId F.plain_any_loop _]
      show wpAny _ A.in1 (pyNext (.ref a) >>= _) _ _ s
      refine wpAny_bind (wpAny_gsz (n := gn + 1) hgl (wpAny_pyNext_genexpQ (A := A.in1) (P := EndR X a go true Q) hh hl hroom hg hgs hgo (fun v s₁ gs' hb hv => ?_) (fun s₁ hp h' hk => ?_)))
      · intro hsz
        obtain ⟨r, rfl, hbr, hl1, hg1, h1, h2⟩ := hv
        refine wpAny_bind (wpAny_holding (wpAny_truthy_bool ?_))
        refine wpAny_bind (wpAny_letGo ?_)
        cases r with
        | false =>
          simp only [Bool.false_eq_true, if_false]
          refine wpAny_pure ⟨plainId_quiet F.plain_any_loop _, ?_⟩
          have hsz1 : gn < s₁.gens.size := by
            have q : (s₁.setGen gn gs').gens.size = s₁.gens.size := setGen_size _ _ _
            have hsz' : gn + 1 ≤ (s₁.setGen gn gs').gens.size := hsz
            omega
          exact ih (s₁.setGen gn gs') hg1 hl1 ⟨gs', setGen_at hsz1, h2 (by decide) ((s₁.setGen gn gs').setGen gn .running) rfl (allBare_setGen (allBare_setGen hbr hb) rfl) (fun _ _ e => e)⟩
        | true =>
          simp only [if_true]
          refine wpAny_bind (wpAny_rule (wpAny_pure ?_))
          obtain ⟨σ', H', I, q⟩ := h1 rfl
          exact hR true σ' H' _ (inv_more (s' := s₁.setGen gn gs') I rfl (fun _ _ e => e) (allBare_setGen I.bare hb)) q
      · intro hsz
        refine wpAny_bind (wpAny_rule (wpAny_pure ?_))
        exact fin s₁ hp h' hk
end

def tGx (T : List (Addr × Str)) (b : Bool) (wi : TI) (g : TG) (tt : TT) (te : TE) (vs : List Nat) : TE := fun σ H Q => wi σ H fun J H1 => Tabs T H1 ∧ ∀ H2, ExtN H1 H2 → Tabs T H2 → ∃ W : Nat → Nat → Hp → Prop, (∃ m, W 0 m H2) ∧ Turns b J g tt te (wipe σ vs) vs Q W
def gxName (b : Bool) : Str := if b = true then "any" else "all"
section
variable {X : Cx} {pins : List (Addr × Obj)} {σ : L2.St} {H : Hp} {s : Shared}
structure GxS (X : Cx) (scope : Scope) (own : List (Str × Nat)) : Prop where
  blk : BlkOk X.N X.env.scope scope own
  co : scope.isCoroutine = false
  cell : ∀ y ∈ scope.names, y.2 ≠ .cell
  dot : scope.names.lookup (".0" : Str) = some NameKind.local
theorem gx_make {T : List (Addr × Str)} {c P : Addr} {elt tg iter : Expr} {ifs : List Expr} {scope : Scope} {own : List (Str × Nat)} {gpos : Pos} {wi : TI} {g : TG} {tt : TT} {te : TE} {b : Bool} {Q : VK} {k : Nat} {Q' : Value → Shared → Prop}
    (hN : X.N.Nodup) (hroom : Room (k + 1) X.A) (TB : LamX.TabB X.base X.mg c P) (hcode : X.env.code = .ref c) (S : GxS X scope own) (hm : (P, X.env.qual ++ "<genexpr>") ∈ T) (hu : ∀ p ∈ T, p.1 = P → p.2 = X.env.qual ++ "<genexpr>")
    (hi : PI X tg iter wi) (hs : ∀ v, genFold iter X.env v = pure v) (I : Inv X pins σ H s)
    (h : tGx T b wi g tt te (own.map (·.2)) σ H Q)
    (hQ : ∀ (s4 : Shared) (H3 : Hp) (code : Value) (it a : Addr) (fp : List Addr) (tn : Nat → Heap → Prop) (J : It) (W : Nat → Nat → Hp → Prop) (m gn : Nat) (go : Obj) (s5 : Shared), Inv X pins σ H3 s4 → (∀ b ∈ fp, FpOk X pins H3 b ∧ b < s4.heap.objs.size) → Turn X.prog X.w X.K tg J fp it tn → tn 0 s5.heap → W 0 m H3 → Turns b J g tt te (wipe σ (own.map (·.2))) (own.map (·.2)) Q W →
      s5.os = s4.os → AllBare s5.gens → (∀ (A : Around), A.handled = none → A.frames = some (gEnv X scope s4.heap.objs.size code :: X.stack) → Inv (gCx X A s4 H3 (gEnv X scope s4.heap.objs.size code) fp) [(a, go)] (wipe σ (own.map (·.2))) H3 s5) →
      (∀ h : Heap, h.get? a = some go → h.IsGen a gn) → (∀ b ∈ fp, a ≠ b) → s5.gens[gn]? = some (.fresh (.compStart (.GeneratorExp elt [⟨tg, iter, ifs, 0⟩] scope gpos) 0 (.ref it) .none (gEnv X scope s4.heap.objs.size code))) → Q' (.ref a) s5) :
    wpAny (model X.prog X.w) X.A (eval (.GeneratorExp elt [⟨tg, iter, ifs, 0⟩] scope gpos) X.env) Q' X.xe s := by
  have hfree : ∀ y ∈ scope.names, y.2 = .free → ∃ c, X.env.cells.lookup y.1 = some c := fun y hy e => by
    rcases S.blk.free y hy e with k | k
    · exact I.ok.has _ (.inl k)
    · exact I.ok.has _ (.inr k)
  refine wpAny_GeneratorExp_make S.co (closure_ok hfree) S.cell S.dot S.blk.kind (by have := hroom.dp; omega) ?_ hs
  refine thn (hi.run pins s σ H _ I h) fun xv s1 hx => thn hx fun itv s2 h2 => ?_
  obtain ⟨it, fp, tn, J, H2, e, I2, Tu, st2, f2, hT, q⟩ := h2
  subst e
  refine ⟨I2.nolimit, ?_⟩
  obtain ⟨ps, hP, ht, hA⟩ := hT _ hm
  have hPs : s2.heap.get? P = some { cls := .none, data := .fields ps } := I2.hok P _ hP
  have hPlt : P < s2.heap.objs.size := Heap.lt_size hPs
  have cd : PySem.W.CodeHd s2.heap c P := TB.code.keeps I2.bk
  have sz : ∀ b ∈ fp, b < s2.heap.objs.size := fun b hb => by
    obtain ⟨o, e, _⟩ := Tu.obj _ _ st2 b hb
    exact Heap.lt_size e
  have nPfp : ∀ b ∈ fp, b ≠ P := fun b hb z => by
    have := (f2 b hb).1
    rw [z, hP] at this
    cases this
  have cont : ∀ (code : Value) (h3 : Heap) (tk : Nat) (H3 : Hp), Heap.ExtBut P s2.heap h3 → s2.heap.objs.size ≤ h3.objs.size → Inv X pins σ H3 { s2 with heap := h3, toks := tk } → ExtN H2 H3 → Tabs T H3 → (∀ b ∈ fp, H3 b = none) →
      wpAny (model X.prog X.w) X.A (builtinsFor X.env.globals X.env.builtins) (fun bi s₄ =>
        ∀ h', h'.Ns s₄.heap.objs.size (fun y => if y = ".0" then some (.ref it) else none) → Heap.SameBut s₄.heap.objs.size (s₄.heap.push { cls := .type "frame", data := .dict #[] }) h' →
          Q' (.ref h'.objs.size) { s₄ with
            gens := s₄.gens.push (.fresh (.compStart (.GeneratorExp elt [⟨tg, iter, ifs, 0⟩] scope gpos) 0 (.ref it) .none (genEnv scope (cloFrom X.env.cells scope.names []) s₄.heap.objs.size code bi X.env))),
            toks := s₄.toks + 1 + 1 + 1,
            heap := h'.push { cls := .type "generator", data := .fields #[.int s₄.gens.size 0, .str "<genexpr>" (s₄.toks + 1), .str (X.env.qual ++ "<genexpr>") (s₄.toks + 1 + 1)] } }) X.xe { s2 with heap := h3, toks := tk } := by
    intro code h3 tk H3 hx hsz I3 hE hT3 nfp
    obtain ⟨bm, ob, e1, e2, e3, e4, e5, e6, e7, e8⟩ := TB.bm
    refine wpAny_builtinsFor (m := X.mg) (by rw [I3.ok.glob]; exact I3.mod.glob.keeps I3.bk) e1 e2 (I3.bk _ _ e5) e6 e7 e8 ?_
    intro h' hn' hs'
    have hn' : h'.Ns h3.objs.size (fun y => if y = ".0" then some (.ref it) else none) := hn'
    have hs' : Heap.SameBut h3.objs.size (h3.push { cls := .type "frame", data := .dict #[] }) h' := hs'
    have keep' : ∀ b o, h3.get? b = some o → h'.get? b = some o := fun b o e => hs'.extBut b o (Nat.ne_of_lt (Heap.lt_size e)) (Heap.get?_push_of_some _ e)
    have hsz' : h'.objs.size = h3.objs.size + 1 := by rw [hs'.1, Heap.size_push]
    obtain ⟨W, ⟨m, w0⟩, turn⟩ := q H3 hE hT3
    have f3 : ∀ b ∈ fp, FpOk X pins H3 b ∧ b < h3.objs.size := fun b hb => ⟨⟨nfp b hb, (f2 b hb).2⟩, Nat.lt_of_lt_of_le (sz b hb) hsz⟩
    have st3 : tn 0 h3 := Tu.keep _ _ _ st2 fun b hb o e => hx b o (nPfp b hb) e
    generalize hgo : ({ cls := .type "generator", data := .fields #[.int s2.gens.size 0, .str "<genexpr>" (tk + 1), .str (X.env.qual ++ "<genexpr>") (tk + 1 + 1)] } : Obj) = go
    have keep5 : ∀ b o, h3.get? b = some o → (h'.push go).get? b = some o := fun b o e => Heap.get?_push_of_some _ (keep' b o e)
    have bare5 : AllBare (s2.gens.push (.fresh (.compStart (.GeneratorExp elt [⟨tg, iter, ifs, 0⟩] scope gpos) 0 (.ref it) .none (genEnv scope (cloFrom X.env.cells scope.names []) h3.objs.size code builtinsNs X.env)))) := AllBare.push I2.bare rfl
    refine hQ { s2 with heap := h3, toks := tk } H3 code it h'.objs.size fp tn J W m s2.gens.size go _ I3 f3 Tu (Tu.keep _ _ _ st3 fun b _ o e => ?_) w0 turn rfl bare5 (fun A hA hF => ?_) (fun h e => ?_) (fun b hb z => ?_) (Array.getElem?_push_size ..)
    · exact keep5 b o e
    · have I5 := gen_start (A := A) (code := code) (h₁ := h'.push go) (g1 := s2.gens.push (.fresh (.compStart (.GeneratorExp elt [⟨tg, iter, ifs, 0⟩] scope gpos) 0 (.ref it) .none (genEnv scope (cloFrom X.env.cells scope.names []) h3.objs.size code builtinsNs X.env)))) (d1 := s2.drawn) (t1 := tk + 1 + 1 + 1) I3 S.blk S.cell hN f3 hA hF (hn'.push _) keep5 bare5
      have na : H3 h'.objs.size = none := I3.hok.fresh (by show h3.objs.size ≤ _; omega)
      refine I5.pins_of fun p hp => ?_
      rw [List.mem_singleton.mp hp]
      refine ⟨?_, na, ?_, fun z => ?_, fun v z => ?_⟩
      · exact Heap.get?_push_size _ (by rw [← hgo]; rfl)
      · show h'.objs.size ≠ h3.objs.size
        omega
      · obtain ⟨_, o, ho, _⟩ := I3.stack.mem z
        have := Heap.lt_size ho
        have this : h'.objs.size < h3.objs.size := this
        omega
      · rw [← hgo] at z
        cases z
    · rw [← hgo] at e
      exact ⟨_, _, _, e, rfl, rfl, rfl⟩
    · have h9 := (f3 b hb).2
      rw [← z] at h9
      have h9 : h'.objs.size < h3.objs.size := h9
      omega
  cases hf : codeAmong gpos ps.toList with
  | none =>
    refine wpAny_genexprCodeX hcode (cd.code hPs ht) (cd.tab hPs) hf fun c' h' tk hx hge hlt hco' hrec htab' _ => ?_
    obtain ⟨c2, oc, vs, t, e2, hoc, hd, hv⟩ := hrec
    cases e2
    have nC : H2 c' = none := I2.hok.fresh hge
    have I3 := inv_table (t' := tk) (q := X.env.qual ++ "<genexpr>") (more := #[rawInt gpos.line, rawInt gpos.col, .ref c']) (h' := h') I2 hP (fun b o hb e => hx b o hb e) htab'.2 hge ⟨oc, vs, t, hoc, hd, hv⟩
    have hE : ExtN H2 (upd (upd H2 P (.tbl (ps ++ #[rawInt gpos.line, rawInt gpos.col, .ref c']))) c' (CodeO c' (X.env.qual ++ "<genexpr>"))) := fun b o e n => by
      rw [upd_ne (ne_of_none e nC), upd_ne (fun z => n ps (Option.some.inj (e.symm.trans (by rw [z]; exact hP))))]
      exact e
    have eL : (ps ++ #[rawInt gpos.line, rawInt gpos.col, .ref c']).toList = ps.toList ++ [rawInt gpos.line, rawInt gpos.col, .ref c'] := by simp
    refine cont _ h' tk _ hx (Nat.le_trans hge (Nat.le_of_lt hlt)) I3 hE (fun p hp => ?_) fun b hb => ?_
    · by_cases hb : p.1 = P
      · rw [hu p hp hb, hb]
        refine ⟨_, by rw [upd_ne (ne_of_none hP nC), upd_same], by rw [eL]; exact PySem.TriplesOk_snoc _ _ _ _ ht, fun p' cv hcv => ?_⟩
        rw [eL] at hcv
        rcases among_app _ ht hcv with z | z
        · obtain ⟨c0, e1, e2⟩ := hA p' cv z
          exact ⟨c0, e1, hE _ _ e2 codeO_ne⟩
        · exact ⟨c', z, upd_same⟩
      · obtain ⟨ps', a1, a2, a3⟩ := hT p hp
        refine ⟨ps', by rw [upd_ne (ne_of_none a1 nC), upd_ne hb]; exact a1, a2, fun p' cv hcv => ?_⟩
        obtain ⟨c0, e1, e2⟩ := a3 p' cv hcv
        exact ⟨c0, e1, hE _ _ e2 codeO_ne⟩
    · rw [upd_ne (Nat.ne_of_lt (Nat.lt_of_lt_of_le (sz b hb) hge)), upd_ne (nPfp b hb)]
      exact (f2 b hb).1
  | some cv =>
    refine wpAny_genexprCode_hit hcode (cd.code hPs ht) hf ?_
    exact cont cv s2.heap s2.toks H2 (Heap.ExtBut.refl _ _) (Nat.le_refl _) I2 (ExtN.refl _) hT fun b hb => (f2 b hb).1
theorem pe_gx {T : List (Addr × Str)} {c P : Addr} {elt tg iter : Expr} {ifs : List Expr} {scope : Scope} {own : List (Str × Nat)} {gpos p pos : Pos} {wi : TI} {g : TG} {tt : TT} {te : TE} {b : Bool} {k : Nat}
    (hg : Gl X (gxName b)) (hmg : X.mg (gxName b) = none) (hN : X.N.Nodup) (hroom : Room (k + 1) X.A) (TB : LamX.TabB X.base X.mg c P) (hcode : X.env.code = .ref c) (S : GxS X scope own) (hm : (P, X.env.qual ++ "<genexpr>") ∈ T) (hu : ∀ p ∈ T, p.1 = P → p.2 = X.env.qual ++ "<genexpr>")
    (hi : PI X tg iter wi) (hs : ∀ v, genFold iter X.env v = pure v)
    (pg : ∀ (A : Around) (s : Shared) (H : Hp) (C : Addr) (code : Value) (fp : List Addr), PG (gCx X A s H (gEnv X scope C code) fp) tg g)
    (pt : ∀ (A : Around) (s : Shared) (H : Hp) (C : Addr) (code : Value) (fp : List Addr), Room k A → PTs (gCx X A s H (gEnv X scope C code) fp) ifs tt)
    (pe : ∀ (A : Around) (s : Shared) (H : Hp) (C : Addr) (code : Value) (fp : List Addr), Room k A → PE (gCx X A s H (gEnv X scope C code) fp) elt te)
    (he : starEach [.GeneratorExp elt [⟨tg, iter, ifs, 0⟩] scope gpos] X.env = (false, eval (.GeneratorExp elt [⟨tg, iter, ifs, 0⟩] scope gpos) X.env) :: starEach [] X.env := by rfl) :
    PE X (.Call (.Name (gxName b) p) [.GeneratorExp elt [⟨tg, iter, ifs, 0⟩] scope gpos] [] pos) (tGx T b wi g tt te (own.map (·.2))) := by
  refine ⟨fun pins s σ H Q I h => ?_⟩
  have hboot : bootBuiltins (gxName b) = some (.builtin (if b = true then "any" else "all")) := by cases b <;> decide +kernel
  refine wpAny_Call_Name_kw (ld_blt I hg hmg hboot ?_ (by cases b <;> decide +kernel) (by cases b <;> decide +kernel))
  refine PyProof.Rows.callWith_builtin1 ?_ he (by rfl)
  rw [he]
  show wpAny _ _ (spliced ((false, eval (.GeneratorExp elt [⟨tg, iter, ifs, 0⟩] scope gpos) X.env) :: backTo pos (starEach [] X.env))) _ _ s
  refine Calls.spliced_cons (gx_make hN hroom TB hcode S hm hu hi hs I h ?_)
  intro s4 H3 code it a fp tn J W m gn go s5 I4 hfp Tu st5 w0 turn os5 bare5 mk hgo hafp hfr
  refine Calls.spliced_nil ?_
  -- the context at the turns
  generalize hge : gEnv X scope s4.heap.objs.size code = ge at *
  have hA2 : (X.A.in1.in1.over (loopC elt tg iter ifs scope gpos it ge) []).handled = none := hroom.hd
  have hF2 : (X.A.in1.in1.over (loopC elt tg iter ifs scope gpos it ge) []).frames = some (ge :: X.stack) := by
    have e : X.A.in1.in1.frames = some X.stack := I.ok.frames
    unfold Around.over
    show pushEnvs (loopC elt tg iter ifs scope gpos it ge).envs (pushEnvs (envsOf (([] : List Frame).map Frame.where_)) X.A.in1.in1.frames) = _
    rw [e]
    subst hge
    rfl
  have hR2 : Room k (X.A.in1.in1.over (loopC elt tg iter ifs scope gpos it ge) []) := ⟨hA2, by
    have := hroom.dp
    show X.A.depth + 1 + 3 * k + 5 < _
    omega, by
    have := hroom.un
    show X.A.units + 1 + 1 + 3 + 16 * k + 200 < _
    omega⟩
  generalize hAA : X.A.in1.in1.over (loopC elt tg iter ifs scope gpos it ge) [] = A2 at *
  have I5 := mk A2 hA2 (by rw [hF2])
  have pin5 := I5.pin (a, go) (List.mem_append_right _ (List.mem_singleton.mpr rfl))
  have hl : (wipe σ (own.map (·.2))).length = σ.length := wipe_length _ _
  have Pg := pg A2 s4 H3 s4.heap.objs.size code fp
  have Pt := pt A2 s4 H3 s4.heap.objs.size code fp hR2
  have Pe := pe A2 s4 H3 s4.heap.objs.size code fp hR2
  rw [hge] at Pg Pt Pe
  have go5 : ∀ s', s'.os = s5.os → AllBare s'.gens → (∀ x o, s5.heap.get? x = some o → s'.heap.get? x = some o) →
      Seg (model X.prog X.w) X.A.in1.in1 (fun n s₀ r s₁ => r = .ok .next ∧ EndR (gCx X A2 s4 H3 ge fp) a go b Q n s₀ s₁) (YieldY (gCx X A2 s4 H3 ge fp) a go gn b Q) (m + 1) s' (.compStart (.GeneratorExp elt [⟨tg, iter, ifs, 0⟩] scope gpos) 0 (.ref it) .none ge) ((model X.prog X.w).den (.compStart (.GeneratorExp elt [⟨tg, iter, ifs, 0⟩] scope gpos) 0 (.ref it) .none ge)) [] s' := fun s' ho hb hk =>
    seg_gxStart (X := gCx X A2 s4 H3 ge fp) (vs := own.map (·.2)) (by rw [← hAA]) rfl rfl rfl (by subst hge; exact S.co) hgo Tu (fun b hb => hb) hafp Pg Pt Pe (fun σ' h => ⟨by rw [← wipe_length σ' (own.map (·.2)), h], fun j v e => by
      rw [← h] at e
      exact (wipe_some e).1⟩) turn (Nat.lt_succ_self m) w0 (inv_more I5 ho hk hb) (Tu.keep _ _ _ st5 fun b _ o e => hk b o e) fun b hb => (hfp b hb).1.1
  have back : ∀ (k' : Bool) (σ' : L2.St) (H' : Hp) (s' : Shared), Inv (gCx X A2 s4 H3 ge fp) [(a, go)] σ' H' s' → Q (.bl k') H' → ∃ v H'', Inv X pins σ H'' s' ∧ RelV v (.bool k') ∧ Q v H'' := fun k' σ' H' s' I6 q6 =>
    ⟨.bl k', H', I4.call' (ch := fp) I6.os I6.base I6.hok I6.bare fun b hb => ⟨(hfp b hb).1.2.2.2.1, (hfp b hb).1.2.1, (hfp b hb).1.2.2.2.2.1, (hfp b hb).1.2.2.2.2.2⟩, rfl, q6⟩
  have hroomA : X.A.depth < recursionLimit := by have := hroom.dp; omega
  have run := consume (X := gCx X A2 s4 H3 ge fp) (a := a) (go := go) (gn := gn) (b := b) (Q := Q) (A := X.A) (R := fun r s' => match r with | .ok (.ret v) => ∃ x H'', Inv X pins σ H'' s' ∧ RelV x v ∧ Q x H'' | .ok _ => False | .error e => X.xe e s') hroom.hd hroomA (fun k' σ' H' s' I6 q6 => back k' σ' H' s' I6 q6) (m + 1) s5 (hgo _ pin5.1) I5.nolimit
    ⟨_, hfr, rfl, go5 (s5.setGen gn .running) rfl (allBare_setGen bare5 rfl) fun _ _ e => e⟩
  have giI : s5.heap.IsGen a gn := hgo _ pin5.1
  cases b with
  | false =>
    show wpAny _ _ (call (.builtin "all") [.ref a]) _ _ _
    refine call_function_tree F.kind_all F.plain_all F.entry_all (F.args_all1 _) ?_
    unfold Builtin.«all»
    refine wpAny_bind (m := oneArg "all" _) (wpAny_pure ?_)
    refine wpAny_bind (wpAny_pyIter_gen giI ?_)
    refine wpAny_pure ⟨plainId_quiet F.plain_all_loop _, codeAny_mono run fun r s' hq => ?_⟩
    cases r with
    | error e => exact hq
    | ok fl => cases fl <;> exact hq
  | true =>
    show wpAny _ _ (call (.builtin "any") [.ref a]) _ _ _
    refine call_function_tree F.kind_any F.plain_any F.entry_any (F.args_any1 _) ?_
    unfold Builtin.«any»
    refine wpAny_bind (m := oneArg "any" _) (wpAny_pure ?_)
    refine wpAny_bind (wpAny_pyIter_gen giI ?_)
    refine wpAny_pure ⟨plainId_quiet F.plain_any_loop _, codeAny_mono run fun r s' hq => ?_⟩
    cases r with
    | error e => exact hq
    | ok fl => cases fl <;> exact hq
end
end GX

namespace Mini
open PySem PySem.Spec PyProof.Rows L2
def rCountD (K : PySem.W.Frag) : V → List V → Hp → VK → Prop := fun x xs H Q => ∃ (a : Addr) (y : V) (d : PyData) (ds : List PyData), x = V.ref a ∧ xs = [y] ∧ Dp K H (V.ref a) (.list ds) ∧ Dp K H y d ∧
  SeqAt.shaped (.list ds) = true ∧ SeqAt.shaped d = true ∧ Q (.int (ds.countP fun z => PyData.eqv z d : Nat)) H
theorem mt_countD {X : Cx} (hu : X.A.units + 65 < cLine) : MtR X "list.count" (rCountD X.K) := by
  intro pins s σ H x xs v us Q I rx rxs h
  obtain ⟨a, y, d, ds, rfl, rfl, hl, hy, sl, sd, q⟩ := h
  cases rx
  cases rxs with
  | cons ry rt =>
    rename_i uy ut
    cases rt
    obtain ⟨bs, r1⟩ := Dp.reads I d y uy hy ry
    have hxs : PyData.canLayAll0 ds = true := SeqAt.canLay_of_shaped sl
    have hroom : X.A.units + 1 + min (PyData.depthAll ds) d.depth < cLine := room_in_shaped sd hu
    cases hl with
    | lst hs ha =>
      obtain ⟨its, rv, ⟨⟨cls, dd, data, sls⟩, n, ho, hc, hdn, hdt⟩, hlen⟩ := I.list hs
      simp only at hc hdt
      subst hc hdt
      obtain ⟨as, h4⟩ := Dp.readsAll I ds _ its ha rv
      have hmap : its.map (SeqAt.readOf s.heap) = ds := SeqAt.readsAll_map ds its as hxs h4
      have e : (its.toArray.toList.countP fun u => PyData.eqv (SeqAt.readOf s.heap u) d) = ds.countP fun z => PyData.eqv z d := by
        rw [← hmap, List.countP_map]
        rfl
      refine call_meets PySem.F.slot_list_count ⟨_, ho, rfl⟩ PySem.F.entry_list_count (PySem.F.args_list_count_2 _ _)
        (SeqAt.list_countAt a its.toArray n dd sls uy (fun u => PyData.eqv (SeqAt.readOf s.heap u) d)) ⟨ho, SeqAt.items_eqAt (vs := its.toArray) (show ReadsAll s.heap its.toArray.toList ds as from h4) r1 hxs (SeqAt.canLay_of_shaped sd) hroom, ?_⟩
      rw [e]
      exact ⟨.int _, H, I.tok _, ⟨_, rfl⟩, q⟩
end Mini

namespace Mini
open PySem PySem.Spec PyProof.Rows L2

def gNames : List Nat → TGs
  | [] => gNil
  | i :: is => gCons (gName i) (gNames is)
def gK (K : PySem.W.Frag) : G → TG
  | .name i => gName i
  | .tup is => fun v σ H Q => gTup K is.length (gNames is) v σ H Q ∨ gLst K is.length (gNames is) v σ H Q

structure Sl (K : PySem.W.Frag) (C : List Addr) (M : Addr → Prop) (H : Hp) (σ : Sig) (σv : L2.St) : Prop where
  len : σ.length = σv.length
  at_ : ∀ (i : Nat) (d : D), σ[i]? = some (some d) → ∃ v, σv[i]? = some (some v) ∧ RepS K C M H d v
section
variable {K : PySem.W.Frag} {Tb : List (Addr × Str)} {C C' : List Addr} {M M' : Addr → Prop} {H H' : Hp} {δ δ' : Dl} {σ : Sig} {σv : L2.St}
theorem Sl.step (s : Sl K C M H σ σv) (c : CellH C H) (l : Le C H C' H') (hm : ∀ a, M' a → M a ∨ NT H a) : Sl K C' M' H' σ σv :=
  ⟨s.len, fun i d e => by obtain ⟨v, h1, h2⟩ := s.at_ i d e; exact ⟨v, h1, h2.step c l hm⟩⟩
theorem Sl.le (s : Sl K C M H σ σv) (p : Pre K Tb C M H δ) (l : Le C H C' H') : Sl K C' M H' σ σv := s.step p.cellH l fun a z => .inl z
theorem Sl.set (s : Sl K C M H σ σv) {d : D} {v : V} (i : Nat) (r : RepS K C M H d v) : Sl K C M H (σ.set i (some d)) (σv.set i (some v)) := by
  refine ⟨by rw [List.length_set, List.length_set, s.len], fun j e h => ?_⟩
  by_cases hj : i = j
  · subst hj
    have hl : i < σ.length := by
      have := (List.getElem?_eq_some_iff.mp h).1
      rwa [List.length_set] at this
    rw [List.getElem?_set_self hl] at h
    cases h
    exact ⟨v, List.getElem?_set_self (by rw [← s.len]; exact hl), r⟩
  · rw [List.getElem?_set_ne hj] at h ⊢
    exact s.at_ j e h
theorem Sl.wipe (s : Sl K C M H σ σv) : ∀ vs, Sl K C M H (wipeD σ vs) (L2.wipe σv vs)
  | [] => s
  | v :: vs => by
    have h := Sl.wipe s vs
    unfold wipeD L2.wipe
    refine ⟨by rw [List.length_set, List.length_set, h.len], fun j e q => ?_⟩
    by_cases hj : v = j
    · subst hj
      by_cases hl : v < (wipeD σ vs).length
      · rw [List.getElem?_set_self hl] at q; cases q
      · rw [List.getElem?_eq_none (by simpa using hl)] at q; cases q
    · rw [List.getElem?_set_ne hj] at q ⊢
      exact h.at_ j e q
theorem wipe_get (σ : L2.St) : ∀ (vs : List Nat) (i : Nat), (L2.wipe σ vs)[i]? = if i ∈ vs then (if i < σ.length then some none else none) else σ[i]?
  | [], i => by simp [L2.wipe]
  | v :: vs, i => by
    unfold L2.wipe
    by_cases hv : v = i
    · subst hv
      rw [if_pos (List.mem_cons_self)]
      by_cases hl : v < σ.length
      · rw [if_pos hl, List.getElem?_set_self (by rw [wipe_length]; exact hl)]
      · rw [if_neg hl, List.getElem?_eq_none (by rw [List.length_set, wipe_length]; omega)]
    · rw [List.getElem?_set_ne hv, wipe_get σ vs i]
      by_cases hi : i ∈ vs
      · rw [if_pos hi, if_pos (List.mem_cons_of_mem _ hi)]
      · rw [if_neg hi, if_neg (by simp only [List.mem_cons, not_or]; exact ⟨Ne.symm hv, hi⟩)]
theorem wipe_same {σ1 σ2 : L2.St} {vs : List Nat} (hl : σ2.length = σ1.length) (h : ∀ i, i ∉ vs → σ2[i]? = σ1[i]?) : L2.wipe σ2 vs = L2.wipe σ1 vs := by
  apply List.ext_getElem?
  intro i
  rw [wipe_get, wipe_get, hl]
  by_cases hi : i ∈ vs
  · rw [if_pos hi, if_pos hi]
  · rw [if_neg hi, if_neg hi, h i hi]
theorem wipe_wipe (σ : L2.St) (vs : List Nat) : L2.wipe (L2.wipe σ vs) vs = L2.wipe σ vs := wipe_same (wipe_length σ vs) fun i hi => by rw [wipe_get, if_neg hi]
def Off (is : List Nat) (σ1 σ2 : L2.St) : Prop := σ2.length = σ1.length ∧ ∀ i, i ∉ is → σ2[i]? = σ1[i]?
theorem names_ok : ∀ {is : List Nat} {ds : List D} {vs : List V} {σ σ' : Sig} {σv : L2.St} {Q : L2.St → Hp → Prop}, setMany is ds σ = some σ' → RepL K C M H ds vs → Sl K C M H σ σv →
    (∀ σv', Sl K C M H σ' σv' → Off is σv σv' → Q σv' H) → gNames is vs σv H Q
  | [], [], vs, σ, σ', σv, Q, e, r, s, q => by
    unfold RepL at r
    cases e
    exact ⟨r, q σv s ⟨rfl, fun _ _ => rfl⟩⟩
  | [], d :: ds, vs, σ, σ', σv, Q, e, r, s, q => by cases e
  | i :: is, [], vs, σ, σ', σv, Q, e, r, s, q => by cases e
  | i :: is, d :: ds, vs, σ, σ', σv, Q, e, r, s, q => by
    unfold setMany at e
    split at e
    · cases e
    · unfold RepL at r
      obtain ⟨v, w, e1, r1, r2⟩ := r
      refine ⟨v, w, e1, ?_⟩
      show gNames is w (σv.set i (some v)) H Q
      refine names_ok e r2 (s.set i r1.repS) fun σv' s' o => q σv' s' ⟨by rw [o.1, List.length_set], fun j hj => ?_⟩
      simp only [List.mem_cons, not_or] at hj
      rw [o.2 j hj.2, List.getElem?_set_ne (Ne.symm hj.1)]
theorem setMany_len : ∀ {is : List Nat} {ds : List D} {σ σ' : Sig}, setMany is ds σ = some σ' → ds.length = is.length
  | [], [], _, _, _ => rfl
  | [], d :: ds, _, _, e => by cases e
  | i :: is, [], _, _, e => by cases e
  | i :: is, d :: ds, σ, σ', e => by
    unfold setMany at e
    split at e
    · cases e
    · rw [List.length_cons, List.length_cons, setMany_len e]
theorem setG_ok {g : G} {d : D} {v : V} {σ' : Sig} {Q : L2.St → Hp → Prop} (e : setG g d σ = some σ') (r : RepS K C M H d v) (s : Sl K C M H σ σv) (q : ∀ σv', Sl K C M H σ' σv' → Off (gSlots g) σv σv' → Q σv' H) : gK K g v σv H Q := by
  unfold setG at e
  split at e
  · split at e
    · cases e
    · cases e
      refine q _ (s.set _ r) ⟨List.length_set, fun j hj => ?_⟩
      rw [List.getElem?_set_ne]
      exact fun z => hj (by rw [z]; exact List.mem_singleton.mpr rfl)
  · obtain ⟨a, vs, e1, h, h2⟩ := rep_tup (r.rep rfl)
    exact .inl ⟨a, vs, e1, h, by rw [h2.length, setMany_len e], names_ok e h2 s q⟩
  · obtain ⟨a, vs, e1, _, _, h, h2⟩ := rep_lst (r.rep rfl)
    exact .inr ⟨a, vs, e1, SqL.of h, by rw [h2.length, setMany_len e], names_ok e h2 s q⟩
  · cases e

structure Errs (K : PySem.W.Frag) (X : List Str) where
  xv : Str → Value
  xf : Str → Str
  is : ∀ c, c ∈ X → ∀ c', c' ∈ X → PySem.W.exmOne K (xv c) (xv c') = some (decide (c = c'))
def XRel {X : List Str} (Er : Errs K X) (C : List Addr) (M : Addr → Prop) (H : Hp) (c : Str) (p : List D) (cls : Value) (d : Option Addr) : Prop :=
  c ∈ X ∧ cls = Er.xv c ∧ match p with
    | [] => True
    | t :: _ => ∃ dd v, d = some dd ∧ H dd = some (.xd [(Er.xf c, v)]) ∧ Rep K C M H t v
def RPost {X : List Str} (Er : Errs K X) (Tb : List (Addr × Str)) (C : List Addr) (M : Addr → Prop) (H : Hp) {α : Type} (r : R α) (Qok : α → Dl → List Addr → Hp → Prop) (Qex : XK) : Prop := match r with
  | .ok a δ' => ∀ C' H', Le C H C' H' → Pre K Tb C' M H' δ' → Qok a δ' C' H'
  | .ex c p δ' => ∀ C' H' cls d, Le C H C' H' → Pre K Tb C' M H' δ' → XRel Er C' M H' c p cls d → Qex cls d H'
  | .bad => False
theorem RPost.le {X : List Str} {Er : Errs K X} {α : Type} {r : R α} {Qok : α → Dl → List Addr → Hp → Prop} {Qex : XK} (h : RPost Er Tb C M H r Qok Qex) (l : Le C H C' H') : RPost Er Tb C' M H' r Qok Qex := by
  cases r with
  | ok a δ' => exact fun C2 H2 l2 p => h C2 H2 (l.trans l2) p
  | ex c q δ' => exact fun C2 H2 cls d l2 p x => h C2 H2 cls d (l.trans l2) p x
  | bad => exact h
theorem RPost.bind {X : List Str} {Er : Errs K X} {α β : Type} {r : R α} {f : α → Dl → R β} {Qok : β → Dl → List Addr → Hp → Prop} {Qex : XK} (h : RPost Er Tb C M H (r.bind f) Qok Qex) :
    RPost Er Tb C M H r (fun a δ' C' H' => RPost Er Tb C' M H' (f a δ') Qok Qex) Qex := by
  cases r with
  | ok a δ' => exact fun C2 H2 l2 p => RPost.le h l2
  | ex c q δ' => exact h
  | bad => exact h
theorem RPost.mono {X : List Str} {Er : Errs K X} {α : Type} {r : R α} {Qok Qok' : α → Dl → List Addr → Hp → Prop} {Qex : XK} (h : RPost Er Tb C M H r Qok Qex) (hq : ∀ a δ' C' H', Le C H C' H' → Pre K Tb C' M H' δ' → Qok a δ' C' H' → Qok' a δ' C' H') :
    RPost Er Tb C M H r Qok' Qex := by
  cases r with
  | ok a δ' => exact fun C2 H2 l2 p => hq _ _ _ _ l2 p (h C2 H2 l2 p)
  | ex c q δ' => exact h
  | bad => exact h
theorem RPost.of {X : List Str} {Er : Errs K X} {α : Type} {o : Option α} {Qok : α → Dl → List Addr → Hp → Prop} {Qex : XK} (p : Pre K Tb C M H δ) (h : RPost Er Tb C M H (R.of o δ) Qok Qex) : ∃ a, o = some a ∧ Qok a δ C H := by
  cases o with
  | some a => exact ⟨a, rfl, h C H (Le.refl C H) p⟩
  | none => exact h.elim
theorem RPost.here {X : List Str} {Er : Errs K X} {α : Type} {a : α} {Qok : α → Dl → List Addr → Hp → Prop} {Qex : XK} (p : Pre K Tb C M H δ) (h : RPost Er Tb C M H (.ok a δ) Qok Qex) : Qok a δ C H := h C H (Le.refl C H) p
end

def spOf {K : PySem.W.Frag} {X : List Str} (Er : Errs K X) (Tb : List (Addr × Str)) (F : List D → Dl → R D) : Sp := fun vs H Q E => ∃ C M ts δ, Pre K Tb C M H δ ∧ RepL K C M H ts vs ∧
  RPost Er Tb C M H (F ts δ) (fun d _ C' H' => isOwn d = false ∧ ∀ v, Rep K C' M H' d v → Q v H') E
def W0 : WX := fun _ _ _ _ => False
def wStr (K : PySem.W.Frag) (xv : Str → Value) (Q : VK) : List (Str × Str) → XK
  | [] => fun _ _ _ => False
  | (c, s) :: r => fun cls d H' => ∃ b, PySem.W.exmOne K cls (xv c) = some b ∧ (b = true → Q (.str s) H') ∧ (b = false → wStr K xv Q r cls d H')
def TTm (K : PySem.W.Frag) (xv : Str → Value) (hs : List (Str × Str)) : (XK → Hp → VK → Prop) → Hp → VK → Prop := fun tl H Q => tl (wStr K xv Q hs) H Q
structure Rd where
  v : TE
  t : TT
  o : TO
  a : TA
def Rd.val (K : PySem.W.Frag) (v : TE) : Rd where
  v := v
  t := fun σ H Q => v σ H fun x H' => ∃ k, TruV K x H' k ∧ Q k H'
  o := tPart v
  a := fun _ _ _ => False
def Rd.tst (v : TE) (t : TT) : Rd where
  v := v
  t := t
  o := fun _ _ _ => False
  a := fun _ _ _ => False
def Rd.arg (a : TA) : Rd where
  v := fun _ _ _ => False
  t := fun _ _ _ => False
  o := fun _ _ _ => False
  a := a
section
variable {K : PySem.W.Frag} (P : Par) (Er : Errs K P.X) (Tb : List (Addr × Str)) (Gv : Nat → V)
def rI (k : IK) (ta : TA) : TI := fun σ H R => ta σ H fun vs H1 => iK K k vs H1 R
def rd : E → WX → Rd
  | .var i, _ => .val K (tVar i)
  | .int i, _ => .val K (tC (.int i))
  | .bl b, _ => .val K (tC (.bl b))
  | .non, _ => .val K (tC .non)
  | .str s, _ => .val K (tC (.str s))
  | .ty n, _ => .val K (tC (.ty n))
  | .glob g, _ => .val K (tC (Gv g))
  | .bin o a b, W => .val K (tOp (rBin K o) (rd a W).v (rd b W).v)
  | .neg a, W => .val K (tUn (rU fun i => .int (-i)) (rd a W).v)
  | .cmp o a b, W => .tst (tOp (rCmp K o) (rd a W).v (rd b W).v) (tTest (tOp (rCmp K o) (rd a W).v (rd b W).v))
  | .chain o o' a b c, W => .tst (tChain (rCmp K o) (rCmp K o') (rd a W).v (rd b W).v (rd c W).v) (tTest (tChain (rCmp K o) (rCmp K o') (rd a W).v (rd b W).v (rd c W).v))
  | .and a b, W => .tst (tAndT K (rd a W).v (rd b W).v) (tAnd (rd a W).t (rd b W).t)
  | .or a b, W => .tst (tOrT K (rd a W).v (rd b W).v) (tOr (rd a W).t (rd b W).t)
  | .not a, W => .tst (tNotT K (rd a W).v) (tNot (rd a W).t)
  | .ite c a b, W => .tst (tIf (rd c W).t (rd a W).v (rd b W).v) fun _ _ _ => False
  | .tup a, W => .val K (tTup (rd a W).a)
  | .lst a, W => .val K (tLst (rd a W).a)
  | .idx a i, W => .val K (tOp (rIx K) (rd a W).v (rd i W).v)
  | .cnt a b, W => .val K (tBM K "list" (rCountD K) (rd a W).v (tCons (rd b W).v tNil))
  | .slc a lo hi, W => .val K (tSl (rSl K) (rd a W).v (rd lo W).o (rd hi W).o)
  | .call f a, W => .val K (tCallS (spOf Er Tb (P.F f)) (WE W) (rd a W).a)
  | .blt b a, W => .val K (tCB (rBlt K b) (rd a W).a)
  | .lc vs g k it c e, W => .val K (tLc (rI (K := K) k (rd it W).a) (gK K g) (rd c W0).t (rd e W0).v vs)
  | .gx b vs g k it c e, W => .val K (GX.tGx Tb b (rI (K := K) k (rd it W).a) (gK K g) (rd c W0).t (rd e W0).v vs)
  | .newc a, W => .tst (rd a W).v fun _ _ _ => False
  | .scope a, W => .tst (rd a W).v fun _ _ _ => False
  | .lend _ a, W => .tst (rd a W).v (rd a W).t
  | .told hs a, _ => .val K (LamX.tLam Tb (TTm K Er.xv hs) fun E => (rd a fun cls d _ H => E cls d H).v)
  | .nil, _ => .arg tNil
  | .cons a b, W => .arg (tCons (rd a W).v (rd b W).a)
  | .np, _ => { v := fun _ _ _ => False, t := tYes, o := tNoPart, a := fun _ _ _ => False }
termination_by structural e => e
end
end Mini

namespace Mini
open PySem PySem.Spec PyProof.Rows L2
section
variable {K : PySem.W.Frag} {P : Par} (Er : Errs K P.X) (Tb : List (Addr × Str)) (Gv : Nat → V)
abbrev wx (W : WX) (σv : L2.St) : XK := fun cls d H' => W cls d σv H'
structure Snd (e : E) : Prop where
  v : ∀ (W : WX) (C : List Addr) (M : Addr → Prop) (σ : Sig) (δ : Dl) (σv : L2.St) (H : Hp) (Q : VK), Pre K Tb C M H δ → Sl K C M H σ σv →
    RPost Er Tb C M H ((evA' P e).v σ δ) (fun d δ' C' H' => ∀ x, RepS K C' M H' d x → (isFresh e = true → Frs K Tb M H C' H' δ' d x) → Q x H') (wx W σv) → (rd P Er Tb Gv e W).v σv H Q
  t : ∀ (W : WX) (C : List Addr) (M : Addr → Prop) (σ : Sig) (δ : Dl) (σv : L2.St) (H : Hp) (Q : Bool → Hp → Prop), Pre K Tb C M H δ → Sl K C M H σ σv →
    RPost Er Tb C M H ((evA' P e).t σ δ) (fun k _ _ H' => Q k H') (wx W σv) → (rd P Er Tb Gv e W).t σv H Q
  o : ∀ (W : WX) (C : List Addr) (M : Addr → Prop) (σ : Sig) (δ : Dl) (σv : L2.St) (H : Hp) (Q : Option Int → Hp → Prop), Pre K Tb C M H δ → Sl K C M H σ σv →
    RPost Er Tb C M H ((evA' P e).o σ δ) (fun k _ _ H' => Q k H') (wx W σv) → (rd P Er Tb Gv e W).o σv H Q
  a : ∀ (W : WX) (C : List Addr) (M : Addr → Prop) (σ : Sig) (δ : Dl) (σv : L2.St) (H : Hp) (Q : List V → Hp → Prop), Pre K Tb C M H δ → Sl K C M H σ σv →
    RPost Er Tb C M H ((evA' P e).a σ δ) (fun ds _ C' H' => ∀ xs, RSL K C' M H' ds xs → Q xs H') (wx W σv) → (rd P Er Tb Gv e W).a σv H Q
variable {Er Tb Gv}
theorem Snd.val {e : E} {f : Sig → Dl → R D} {g : WX → TE} (h1 : evA' P e = Ev.val f) (h2 : ∀ W, rd P Er Tb Gv e W = Rd.val K (g W))
    (h : ∀ (W : WX) (C : List Addr) (M : Addr → Prop) (σ : Sig) (δ : Dl) (σv : L2.St) (H : Hp) (Q : VK), Pre K Tb C M H δ → Sl K C M H σ σv →
      RPost Er Tb C M H (f σ δ) (fun d δ' C' H' => ∀ x, RepS K C' M H' d x → (isFresh e = true → Frs K Tb M H C' H' δ' d x) → Q x H') (wx W σv) → g W σv H Q) : Snd Er Tb Gv e := by
  refine ⟨fun W C M σ δ σv H Q p s q => ?_, fun W C M σ δ σv H Q p s q => ?_, fun W C M σ δ σv H Q p s q => ?_, fun W C M σ δ σv H Q p s q => ?_⟩
  · rw [h1] at q
    rw [h2]
    exact h W C M σ δ σv H Q p s q
  · rw [h1] at q
    rw [h2]
    refine h W C M σ δ σv H _ p s (RPost.mono (RPost.bind q) fun d δ' C' H' l p' q' x r _ => ?_)
    obtain ⟨k, e1, q2⟩ := RPost.of p' q'
    exact ⟨k, tru_ok e1 r, q2⟩
  · rw [h1] at q
    rw [h2]
    refine h W C M σ δ σv H _ p s (RPost.mono (RPost.bind q) fun d δ' C' H' l p' q' x r _ => ?_)
    obtain ⟨i, e1, q2⟩ := RPost.of p' (RPost.bind q')
    refine ⟨i, ?_, RPost.here p' q2⟩
    cases d <;> simp only [intOf] at e1 <;> cases e1
    exact rep_int (r.rep rfl)
  · rw [h1] at q
    exact q.elim
theorem Snd.tst {e : E} {f : Sig → Dl → R D} {f' : Sig → Dl → R Bool} {g : WX → TE} {g' : WX → TT} (h1 : evA' P e = Ev.tst f f') (h2 : ∀ W, rd P Er Tb Gv e W = Rd.tst (g W) (g' W))
    (h : ∀ (W : WX) (C : List Addr) (M : Addr → Prop) (σ : Sig) (δ : Dl) (σv : L2.St) (H : Hp) (Q : VK), Pre K Tb C M H δ → Sl K C M H σ σv →
      RPost Er Tb C M H (f σ δ) (fun d δ' C' H' => ∀ x, RepS K C' M H' d x → (isFresh e = true → Frs K Tb M H C' H' δ' d x) → Q x H') (wx W σv) → g W σv H Q)
    (h' : ∀ (W : WX) (C : List Addr) (M : Addr → Prop) (σ : Sig) (δ : Dl) (σv : L2.St) (H : Hp) (Q : Bool → Hp → Prop), Pre K Tb C M H δ → Sl K C M H σ σv →
      RPost Er Tb C M H (f' σ δ) (fun k _ _ H' => Q k H') (wx W σv) → g' W σv H Q) : Snd Er Tb Gv e := by
  refine ⟨fun W C M σ δ σv H Q p s q => ?_, fun W C M σ δ σv H Q p s q => ?_, fun W C M σ δ σv H Q p s q => ?_, fun W C M σ δ σv H Q p s q => ?_⟩
  · rw [h1] at q; rw [h2]; exact h W C M σ δ σv H Q p s q
  · rw [h1] at q; rw [h2]; exact h' W C M σ δ σv H Q p s q
  · rw [h1] at q; exact q.elim
  · rw [h1] at q; exact q.elim
theorem Snd.arg {e : E} {f : Sig → Dl → R (List D)} {g : WX → TA} (h1 : evA' P e = Ev.arg f) (h2 : ∀ W, rd P Er Tb Gv e W = Rd.arg (g W))
    (h : ∀ (W : WX) (C : List Addr) (M : Addr → Prop) (σ : Sig) (δ : Dl) (σv : L2.St) (H : Hp) (Q : List V → Hp → Prop), Pre K Tb C M H δ → Sl K C M H σ σv →
      RPost Er Tb C M H (f σ δ) (fun ds _ C' H' => ∀ xs, RSL K C' M H' ds xs → Q xs H') (wx W σv) → g W σv H Q) : Snd Er Tb Gv e := by
  refine ⟨fun W C M σ δ σv H Q p s q => ?_, fun W C M σ δ σv H Q p s q => ?_, fun W C M σ δ σv H Q p s q => ?_, fun W C M σ δ σv H Q p s q => ?_⟩
  · rw [h1] at q; exact q.elim
  · rw [h1] at q; exact q.elim
  · rw [h1] at q; exact q.elim
  · rw [h1] at q; rw [h2]; exact h W C M σ δ σv H Q p s q
theorem Snd.con {e : E} {d : D} {v : V} (h1 : evA' P e = Ev.val fun _ δ => .ok d δ) (h2 : ∀ W, rd P Er Tb Gv e W = Rd.val K (tC v)) (hf : isFresh e = false) (h : ∀ C M H, Rep K C M H d v) : Snd Er Tb Gv e :=
  Snd.val h1 h2 fun W C M σ δ σv H Q p s q => RPost.here p q v (h C M H).repS (fun z => by rw [hf] at z; cases z)
theorem no_of {b : Bool} {X : Prop} (h : b = false) : b = true → X := fun z => by rw [h] at z; cases z
theorem own_no {d : D} {C : List Addr} {M : Addr → Prop} {H : Hp} {v : V} (r : Rep K C M H d v) : isOwn d = false := by
  cases d
  case own => unfold Rep at r; exact r.elim
  all_goals rfl
theorem post_of {C : List Addr} {M : Addr → Prop} {H0 H : Hp} {δ : Dl} {d : D} {Q : VK} {fr : Bool} {C0 : List Addr} (l : Le C0 H0 C H)
    (q : ∀ C' H', Le C H C' H' → Pre K Tb C' M H' δ → ∀ x, RepS K C' M H' d x → (fr = true → Frs K Tb M H0 C' H' δ d x) → Q x H') : Post K Tb fr C M H δ d Q :=
  fun C' H' v l' p' r' f => q C' H' l' p' v r'.repS fun z => (f z).back l l'
theorem lc_ok {J : It} {Gh : List (D × V)} {g : G} {ec : E} {ee : E} {vs : List Nat} {σ : Sig} {σv : L2.St} {C1 : List Addr} {H1 : Hp} {M : Addr → Prop} {δ1 : Dl} {xs : List D} {Dl_ : Addr} {Qd : Hp → Prop}
    (hc : Snd Er Tb Gv ec) (he : Snd Er Tb Gv ee) (w : Wk K Tb J Gh xs) (hg : ∀ i, i ∈ gSlots g → i ∈ vs) (hz : xs.length ≤ 1000000)
    (p : Pre K Tb C1 M H1 δ1) (s : Sl K C1 M H1 σ σv) (gh : ∀ x, x ∈ Gh → Rep K C1 M H1 x.1 x.2) (hD : H1 Dl_ = none) {ys : List D} {δ' : Dl}
    (e : lcGo g (evA' P ec).t (evA' P ee).v (wipeD σ vs) xs δ1 = .ok ys δ')
    (hd : ∀ C' H' ws, Le C1 H1 C' H' → Pre K Tb C' (fun x => M x ∨ x = Dl_) H' δ' → Dl_ ∉ C' → H' Dl_ = some (.lst ws) → RepL K C' (fun x => M x ∨ x = Dl_) H' ys ws → Qd H') :
    ∃ W : Nat → Nat → Hp → Prop, (∃ m, W 0 m (upd H1 Dl_ (.lst []))) ∧ ∀ i m H, W i m H →
      (J.stop i H ∧ Qd H) ∨ (J.go i H ∧ ∃ Nx : Hp → Prop, (∀ H', Nx H' → ∃ m', m' < m ∧ W (i + 1) m' H') ∧ ∀ x H', J.yld i H x H' → gK K g x (L2.wipe σv vs) H' fun σ2 H2 => L2.wipe σ2 vs = L2.wipe σv vs ∧ (rd P Er Tb Gv ec W0).t σ2 H2 fun b H3 =>
        if b = true then (rd P Er Tb Gv ee W0).v σ2 H3 fun y H4 => ∃ acc, H4 Dl_ = some (.lst acc) ∧ acc.length < sizeLine ∧ Nx (upd H4 Dl_ (.lst (acc ++ [y]))) else Nx H3) := by
  obtain ⟨f1, f2⟩ := p.fresh hD
  have hm : ∀ x, (M x ∨ x = Dl_) → M x ∨ NT H1 x := fun x z => z.elim .inl fun e => .inr (by rw [e]; exact NT.of_none hD)
  -- the word: what is done, what is left
  refine ⟨fun i m H => i ≤ xs.length ∧ m = xs.length - i ∧ ∃ C' δ zs us ws, Le C1 H1 C' H ∧ Pre K Tb C' (fun x => M x ∨ x = Dl_) H δ ∧ Dl_ ∉ C' ∧ H Dl_ = some (.lst ws) ∧ ws.length ≤ i ∧ RepL K C' (fun x => M x ∨ x = Dl_) H zs ws ∧
    lcGo g (evA' P ec).t (evA' P ee).v (wipeD σ vs) (xs.drop i) δ = .ok us δ' ∧ ys = zs ++ us, ⟨xs.length, Nat.zero_le _, by simp, ?_⟩, ?_⟩
  · have u := upd_all (o := .lst []) hD
    have p1 := p.all u
    refine ⟨C1, δ1, [], ys, [], le_of_all u, ⟨p1.tabs, p1.nd, p1.len, fun x hx z => ?_, fun x z => ?_, fun k us e => ?_⟩, f2, upd_same, by simp, repL_nil, by simpa using e, by simp⟩
    · rcases z with z | z
      · exact p.cm x hx z
      · rw [z] at hx; exact f2 hx
    · rcases z with z | z
      · exact p1.mh x z
      · rw [z]; exact ⟨[], upd_same⟩
    · obtain ⟨b, ws, e1, e2, r2⟩ := p.cells k us e
      exact ⟨b, ws, e1, u _ _ e2, RepL.step p.cellH (le_of_all u) hm us ws r2⟩
  · rintro i m H ⟨hi, rfl, C', δ, zs, us, ws, l, p', nD, hDl, hws, rz, ego, hys⟩
    have wk := w C' _ H δ p' fun x hx => Rep.step p.cellH l hm _ _ (gh x hx)
    by_cases hlt : i < xs.length
    · refine .inr ⟨wk.1 i hlt, fun H' => i + 1 ≤ xs.length ∧ ∃ C' δ zs us ws, Le C1 H1 C' H' ∧ Pre K Tb C' (fun x => M x ∨ x = Dl_) H' δ ∧ Dl_ ∉ C' ∧ H' Dl_ = some (.lst ws) ∧ ws.length ≤ i + 1 ∧ RepL K C' (fun x => M x ∨ x = Dl_) H' zs ws ∧
        lcGo g (evA' P ec).t (evA' P ee).v (wipeD σ vs) (xs.drop (i + 1)) δ = .ok us δ' ∧ ys = zs ++ us, fun H' ⟨a, b⟩ => ⟨xs.length - (i + 1), by omega, a, rfl, b⟩, fun x H' y => ?_⟩
      obtain ⟨t, et, l2, p2, rt⟩ := wk.2.2 i x H' hlt y
      have ed : xs.drop i = t :: xs.drop (i + 1) := by
        obtain ⟨h1, h2⟩ := List.getElem?_eq_some_iff.mp et
        rw [← h2]; exact List.drop_eq_getElem_cons hlt
      rw [ed] at ego
      unfold lcGo at ego
      cases eg : setG g t (wipeD σ vs) with
      | none => rw [eg] at ego; cases ego
      | some σ2 =>
        rw [eg] at ego
        simp only at ego
        have s1 : Sl K C' (fun x => M x ∨ x = Dl_) H' (wipeD σ vs) (L2.wipe σv vs) := ((s.step p.cellH l hm).le p' l2).wipe vs
        refine setG_ok eg rt.repS s1 fun σv2 s2 off => ?_
        refine ⟨?_, ?_⟩
        · rw [← wipe_wipe σv vs]
          exact wipe_same off.1 fun j hj => off.2 j fun z => hj (hg j z)
        · -- the test
          refine hc.t W0 C' _ σ2 δ σv2 H' _ p2 s2 ?_
          cases et2 : (evA' P ec).t σ2 δ with
          | ex c q d => rw [et2] at ego; cases ego
          | bad => rw [et2] at ego; cases ego
          | ok b δ3 =>
            rw [et2] at ego
            simp only [R.noex, R.bind] at ego
            intro C3 H3 l3 p3
            have hD3 : H3 Dl_ = some (.lst ws) := l3.ext _ _ (l2.ext _ _ hDl nD (fun ps z => by cases z)) (l2.notin hDl (fun ps z => by cases z) nD) (fun ps z => by cases z)
            have nD3 : Dl_ ∉ C3 := l3.notin (l2.ext _ _ hDl nD (fun ps z => by cases z)) (fun ps z => by cases z) nD
            have rz3 : RepL K C3 (fun x => M x ∨ x = Dl_) H3 zs ws := RepL.step p'.cellH (l2.trans l3) (fun a z => .inl z) zs ws rz
            cases b with
            | false =>
              simp only [Bool.false_eq_true, if_false] at ego ⊢
              exact ⟨hlt, C3, δ3, zs, us, ws, (l.trans l2).trans l3, p3, nD3, hD3, by omega, rz3, ego, hys⟩
            | true =>
              simp only [if_true] at ego ⊢
              refine he.v W0 C3 _ σ2 δ3 σv2 H3 _ p3 (s2.le p2 l3) ?_
              cases ee2 : (evA' P ee).v σ2 δ3 with
              | ex c q d => rw [ee2] at ego; cases ego
              | bad => rw [ee2] at ego; cases ego
              | ok y2 δ4 =>
                rw [ee2] at ego
                simp only [R.noex, R.bind] at ego
                cases ho : isOwn y2 with
                | true => rw [ho] at ego; cases ego
                | false =>
                  rw [ho] at ego
                  simp only [Bool.false_eq_true, if_false] at ego
                  intro C4 H4 l4 p4 vy ry _
                  have ry := ry.rep ho
                  have hD4 : H4 Dl_ = some (.lst ws) := l4.ext _ _ hD3 nD3 (fun ps z => by cases z)
                  have nD4 : Dl_ ∉ C4 := l4.notin hD3 (fun ps z => by cases z) nD3
                  have rz4 : RepL K C4 (fun x => M x ∨ x = Dl_) H4 zs ws := RepL.step p3.cellH l4 (fun a z => .inl z) zs ws rz3
                  refine ⟨ws, hD4, by rw [sizeLine_eq]; omega, hlt, ?_⟩
                  cases er : lcGo g (evA' P ec).t (evA' P ee).v (wipeD σ vs) (xs.drop (i + 1)) δ4 with
                  | ex c q d => rw [er] at ego; cases ego
                  | bad => rw [er] at ego; cases ego
                  | ok us' δ5 =>
                    rw [er] at ego
                    simp only [R.ok.injEq] at ego
                    obtain ⟨e1, e2⟩ := ego
                    subst e2
                    -- the list at Dl_ has grown: what does not speak of it stands
                    have other : ∀ a o, H4 a = some o → a ≠ Dl_ → upd H4 Dl_ (.lst (ws ++ [vy])) a = some o := fun a o h n => by rw [upd_ne n]; exact h
                    have cn : ∀ a, a ∈ C4 → a ≠ Dl_ := fun a ha z => nD4 (by rw [← z]; exact ha)
                    have wr : Wr H4 (upd H4 Dl_ (.lst (ws ++ [vy]))) Dl_ := ⟨⟨ws, hD4⟩, ⟨_, upd_same⟩, fun a o n h => other a o h n⟩
                    have stepL : ∀ ts rs, RepL K C4 (fun x => M x ∨ x = Dl_) H4 ts rs → RepL K C4 (fun x => M x ∨ x = Dl_) (upd H4 Dl_ (.lst (ws ++ [vy]))) ts rs := RepL.wr (.inl (.inr rfl)) wr
                    refine ⟨C4, δ4, zs ++ [y2], us', ws ++ [vy], ⟨((l.trans l2).trans l3).trans l4 |>.pre, fun a ha n => (((l.trans l2).trans l3).trans l4).new a ha n, fun a o h n hn => ?_⟩, ⟨?_, p4.nd, p4.len, p4.cm, fun a z => ?_, fun k ts e => ?_⟩, nD4, upd_same, by simp; omega, ?_, er, by rw [hys, ← e1]; simp⟩
                    · have := (((l.trans l2).trans l3).trans l4).ext a o h n hn
                      exact other a o this (ne_of_none h hD)
                    · exact wr.tabs p4.tabs
                    · by_cases ha : a = Dl_
                      · rw [ha]; exact ⟨_, upd_same⟩
                      · obtain ⟨xs', q⟩ := p4.mh a z
                        exact ⟨xs', other a _ q ha⟩
                    · obtain ⟨a, rs, e1, e2, r⟩ := p4.cells k ts e
                      exact ⟨a, rs, e1, other a _ e2 (cn a (List.mem_of_getElem? e1)), stepL ts rs r⟩
                    · exact (stepL zs ws rz4).append (.one (by
                        have := stepL [y2] [vy] (.one ry)
                        unfold RepL at this
                        obtain ⟨v, r, e1, h1, h2⟩ := this
                        cases e1
                        exact h1))
    · have ei : i = xs.length := by omega
      subst ei
      rw [List.drop_length] at ego
      cases ego
      exact .inl ⟨wk.2.1, hd C' H ws l p' nD hDl (by rw [hys]; simpa using rz)⟩
theorem gx_ok {J : It} {Gh : List (D × V)} {b : Bool} {g : G} {ec : E} {ee : E} {vs : List Nat} {σ : Sig} {σv : L2.St} {C1 : List Addr} {H1 : Hp} {M : Addr → Prop} {δ1 : Dl} {xs : List D} {Q : VK}
    (hc : Snd Er Tb Gv ec) (he : Snd Er Tb Gv ee) (w : Wk K Tb J Gh xs) (hg : ∀ i, i ∈ gSlots g → i ∈ vs)
    (p : Pre K Tb C1 M H1 δ1) (s : Sl K C1 M H1 σ σv) (gh : ∀ x, x ∈ Gh → Rep K C1 M H1 x.1 x.2) {r : Bool} {δ' : Dl}
    (e : gxGo b g (evA' P ec).t (evA' P ee).v (wipeD σ vs) xs δ1 = .ok r δ') (hd : ∀ C' H', Le C1 H1 C' H' → Pre K Tb C' M H' δ' → Q (.bl r) H') :
    ∃ W : Nat → Nat → Hp → Prop, (∃ m, W 0 m H1) ∧ GX.Turns b J (gK K g) (rd P Er Tb Gv ec W0).t (rd P Er Tb Gv ee W0).v (L2.wipe σv vs) vs Q W := by
  refine ⟨fun i m H => i ≤ xs.length ∧ m = xs.length - i ∧ ∃ C' δ, Le C1 H1 C' H ∧ Pre K Tb C' M H δ ∧ gxGo b g (evA' P ec).t (evA' P ee).v (wipeD σ vs) (xs.drop i) δ = .ok r δ', ⟨xs.length, Nat.zero_le _, by simp, C1, δ1, Le.refl _ _, p, by simpa using e⟩, ?_⟩
  rintro i m H ⟨hi, rfl, C', δ, l, p', ego⟩
  have wk := w C' _ H δ p' fun x hx => Rep.step p.cellH l (fun a z => .inl z) _ _ (gh x hx)
  by_cases hlt : i < xs.length
  · refine .inr ⟨wk.1 i hlt, fun H' => i + 1 ≤ xs.length ∧ ∃ C' δ, Le C1 H1 C' H' ∧ Pre K Tb C' M H' δ ∧ gxGo b g (evA' P ec).t (evA' P ee).v (wipeD σ vs) (xs.drop (i + 1)) δ = .ok r δ', fun H' ⟨a, q⟩ => ⟨xs.length - (i + 1), by omega, a, rfl, q⟩, fun x H' y => ?_⟩
    obtain ⟨t, et, l2, p2, rt⟩ := wk.2.2 i x H' hlt y
    have ed : xs.drop i = t :: xs.drop (i + 1) := by
      obtain ⟨h1, h2⟩ := List.getElem?_eq_some_iff.mp et
      rw [← h2]; exact List.drop_eq_getElem_cons hlt
    rw [ed] at ego
    unfold gxGo at ego
    cases eg : setG g t (wipeD σ vs) with
    | none => rw [eg] at ego; cases ego
    | some σ2 =>
      rw [eg] at ego
      simp only at ego
      have s1 : Sl K C' M H' (wipeD σ vs) (L2.wipe σv vs) := ((s.step p.cellH l (fun a z => .inl z)).le p' l2).wipe vs
      refine setG_ok eg rt.repS s1 fun σv2 s2 off => ?_
      refine ⟨?_, ?_⟩
      · rw [← wipe_wipe σv vs]
        exact wipe_same off.1 fun j hj => off.2 j fun z => hj (hg j z)
      · refine hc.t W0 C' _ σ2 δ σv2 H' _ p2 s2 ?_
        cases et2 : (evA' P ec).t σ2 δ with
        | ex c q d => rw [et2] at ego; cases ego
        | bad => rw [et2] at ego; cases ego
        | ok k δ3 =>
          rw [et2] at ego
          simp only [R.noex, R.bind] at ego
          intro C3 H3 l3 p3
          cases k with
          | false =>
            simp only [Bool.false_eq_true, if_false] at ego ⊢
            exact ⟨hlt, C3, δ3, (l.trans l2).trans l3, p3, ego⟩
          | true =>
            simp only [if_true] at ego ⊢
            refine he.v W0 C3 _ σ2 δ3 σv2 H3 _ p3 (s2.le p2 l3) ?_
            cases ee2 : (evA' P ee).v σ2 δ3 with
            | ex c q d => rw [ee2] at ego; cases ego
            | bad => rw [ee2] at ego; cases ego
            | ok y2 δ4 =>
              rw [ee2] at ego
              simp only [R.noex, R.bind] at ego
              intro C4 H4 l4 p4 vy ry _
              obtain ⟨k2, rfl⟩ : ∃ k2, y2 = .bl k2 := by cases y2 <;> first | exact ⟨_, rfl⟩ | cases ego
              simp only at ego
              refine ⟨k2, rep_bl (ry.rep rfl), ?_⟩
              by_cases hk : k2 = b
              · rw [if_pos hk] at ego ⊢
                cases ego
                exact hd C4 H4 (((l.trans l2).trans l3).trans l4) p4
              · rw [if_neg hk] at ego ⊢
                exact ⟨hlt, C4, δ4, ((l.trans l2).trans l3).trans l4, p4, ego⟩
  · have ei : i = xs.length := by omega
    subst ei
    rw [List.drop_length] at ego
    cases ego
    exact .inl ⟨wk.2.1, hd C' H l p'⟩
end
end Mini

namespace Mini
open PySem PySem.Spec PyProof.Rows L2
section
variable {K : PySem.W.Frag} {Tb : List (Addr × Str)} {C C' : List Addr} {M M' : Addr → Prop} {H H' : Hp} {δ δ' : Dl}
mutual
theorem Rep.anyM : ∀ (t : D) (v : V), noLst t = true → Rep K C M H t v → Rep K C M' H t v
  | .non, v, n, h => by unfold Rep at h ⊢; exact h
  | .bl b, v, n, h => by unfold Rep at h ⊢; exact h
  | .int i, v, n, h => by unfold Rep at h ⊢; exact h
  | .str x, v, n, h => by unfold Rep at h ⊢; exact h
  | .ty x, v, n, h => by unfold Rep at h ⊢; exact h
  | .tup ts, v, n, h => by
    unfold Rep at h ⊢
    obtain ⟨a, vs, e, s, r⟩ := h
    exact ⟨a, vs, e, s, RepL.anyM ts vs (by simpa [noLst] using n) r⟩
  | .lst ts, v, n, h => by simp [noLst] at n
  | .own ts, v, n, h => by simp [noLst] at n
  | .frz ts, v, n, h => by simp [noLst] at n
  | .cell k, v, n, h => by unfold Rep at h ⊢; exact h
theorem RepL.anyM : ∀ (ts : List D) (vs : List V), noLstL ts = true → RepL K C M H ts vs → RepL K C M' H ts vs
  | [], vs, n, h => by unfold RepL at h ⊢; exact h
  | t :: ts, vs, n, h => by
    unfold RepL at h ⊢
    obtain ⟨v, r, e, h1, h2⟩ := h
    simp only [noLstL, Bool.and_eq_true] at n
    exact ⟨v, r, e, Rep.anyM t v n.1 h1, RepL.anyM ts r n.2 h2⟩
end
mutual
theorem Rep.anyC (hc : ∀ a, a ∈ C' → a ∈ C) : ∀ (t : D) (v : V), noCell t = true → Rep K C M H t v → Rep K C' M H t v
  | .non, v, n, h => by unfold Rep at h ⊢; exact h
  | .bl b, v, n, h => by unfold Rep at h ⊢; exact h
  | .int i, v, n, h => by unfold Rep at h ⊢; exact h
  | .str x, v, n, h => by unfold Rep at h ⊢; exact h
  | .ty x, v, n, h => by unfold Rep at h ⊢; exact h
  | .tup ts, v, n, h => by
    unfold Rep at h ⊢
    obtain ⟨a, vs, e, s, r⟩ := h
    exact ⟨a, vs, e, s, RepL.anyC hc ts vs (by simpa [noCell] using n) r⟩
  | .lst ts, v, n, h => by
    unfold Rep at h ⊢
    obtain ⟨a, vs, e, nm, nc, s, r⟩ := h
    exact ⟨a, vs, e, nm, fun z => nc (hc a z), s, RepL.anyC hc ts vs (by simpa [noCell] using n) r⟩
  | .own ts, v, n, h => by unfold Rep at h; exact h.elim
  | .frz ts, v, n, h => by
    unfold Rep at h ⊢
    obtain ⟨a, vs, e, s, r⟩ := h
    refine ⟨a, vs, e, ?_, RepL.anyC hc ts vs (by simpa [noCell] using n) r⟩
    rcases s with s | ⟨nm, nc, s⟩ | s
    · exact .inl s
    · exact .inr (.inl ⟨nm, fun z => nc (hc a z), s⟩)
    · exact .inr (.inr s)
  | .cell k, v, n, h => by simp [noCell] at n
theorem RepL.anyC (hc : ∀ a, a ∈ C' → a ∈ C) : ∀ (ts : List D) (vs : List V), noCellL ts = true → RepL K C M H ts vs → RepL K C' M H ts vs
  | [], vs, n, h => by unfold RepL at h ⊢; exact h
  | t :: ts, vs, n, h => by
    unfold RepL at h ⊢
    obtain ⟨v, r, e, h1, h2⟩ := h
    simp only [noCellL, Bool.and_eq_true] at n
    exact ⟨v, r, e, Rep.anyC hc t v n.1 h1, RepL.anyC hc ts r n.2 h2⟩
end
theorem RepS.anyC (hc : ∀ a, a ∈ C' → a ∈ C) {t : D} {v : V} (n : noCell t = true) (h : RepS K C M H t v) : RepS K C' M H t v := by
  cases t
  case own ts =>
    obtain ⟨a, vs, e, nc, s, r⟩ := h
    exact ⟨a, vs, e, fun z => nc (hc a z), s, RepL.anyC hc ts vs (by simpa [noCell] using n) r⟩
  all_goals exact Rep.anyC hc _ _ n h
theorem demote_eq {d : D} (h : isOwn d = false) : demote d = d := by cases d <;> first | rfl | cases h
mutual
theorem Rep.upC {a : Addr} : ∀ (t : D) (v : V), Rep K C (fun x => M x ∨ x = a) H t v → Rep K (C ++ [a]) M H t v
  | .non, v, h => by unfold Rep at h ⊢; exact h
  | .bl b, v, h => by unfold Rep at h ⊢; exact h
  | .int i, v, h => by unfold Rep at h ⊢; exact h
  | .str x, v, h => by unfold Rep at h ⊢; exact h
  | .ty x, v, h => by unfold Rep at h ⊢; exact h
  | .tup ts, v, h => by
    unfold Rep at h ⊢
    obtain ⟨b, vs, e, s, r⟩ := h
    exact ⟨b, vs, e, s, RepL.upC ts vs r⟩
  | .lst ts, v, h => by
    unfold Rep at h ⊢
    obtain ⟨b, vs, e, n, nc, s, r⟩ := h
    refine ⟨b, vs, e, fun z => n (.inl z), fun z => ?_, s, RepL.upC ts vs r⟩
    rcases List.mem_append.mp z with z | z
    · exact nc z
    · exact n (.inr (List.mem_singleton.mp z))
  | .own ts, v, h => by unfold Rep at h; exact h.elim
  | .frz ts, v, h => by
    unfold Rep at h ⊢
    obtain ⟨b, vs, e, s, r⟩ := h
    refine ⟨b, vs, e, ?_, RepL.upC ts vs r⟩
    rcases s with s | ⟨n, nc, s⟩ | s
    · exact .inl s
    · refine .inr (.inl ⟨fun z => n (.inl z), fun z => ?_, s⟩)
      rcases List.mem_append.mp z with z | z
      · exact nc z
      · exact n (.inr (List.mem_singleton.mp z))
    · exact .inr (.inr s)
  | .cell k, v, h => by
    unfold Rep at h ⊢
    obtain ⟨b, e, q⟩ := h
    exact ⟨b, e, by rw [List.getElem?_append_left (List.getElem?_eq_some_iff.mp q).1]; exact q⟩
theorem RepL.upC {a : Addr} : ∀ (ts : List D) (vs : List V), RepL K C (fun x => M x ∨ x = a) H ts vs → RepL K (C ++ [a]) M H ts vs
  | [], vs, h => by unfold RepL at h ⊢; exact h
  | t :: ts, vs, h => by
    unfold RepL at h ⊢
    obtain ⟨v, r, e, h1, h2⟩ := h
    exact ⟨v, r, e, Rep.upC t v h1, RepL.upC ts r h2⟩
end
theorem RSL.demote : ∀ {ds : List D} {vs : List V}, RSL K C M H ds vs → ∃ bs : List Addr, RepL K C (fun a => M a ∧ a ∉ bs) H (ds.map demote) vs ∧ (ds.any isOwn = false → bs = [])
  | [], vs, h => ⟨[], by rw [show vs = [] from h]; exact repL_nil, fun _ => rfl⟩
  | d :: ds, vs, ⟨v, r, e, h1, h2⟩ => by
    obtain ⟨bs, q1, q2⟩ := RSL.demote h2
    subst e
    have weak : ∀ {b : Addr} {X : Addr → Prop}, (∀ a, (M a ∧ a ∉ b :: bs) → M a ∧ a ∉ bs) := fun {b X} a z => ⟨z.1, fun y => z.2 (List.mem_cons_of_mem _ y)⟩
    cases ho : isOwn d with
    | false =>
      refine ⟨bs, ?_, fun z => ?_⟩
      · rw [List.map_cons, demote_eq ho]
        exact repL_cons (by
          have hh := h1.rep ho
          exact (Rep.sub (fun a z => z.1) d v hh)) q1
      · rw [List.any_cons, Bool.or_eq_false_iff] at z
        exact q2 z.2
    | true =>
      cases d <;> first | cases ho | skip
      case own.refl ts =>
      obtain ⟨a, ws, e1, nc, s, rr⟩ := h1
      refine ⟨a :: bs, ?_, fun z => ?_⟩
      · rw [List.map_cons]
        refine repL_cons ?_ (RepL.sub (fun x z => ⟨z.1, fun y => z.2 (List.mem_cons_of_mem _ y)⟩) _ _ q1)
        show Rep K C _ H (.lst ts) v
        unfold Rep
        exact ⟨a, ws, e1, fun z => z.2 List.mem_cons_self, nc, s, RepL.sub (fun x z => z.1) _ _ rr⟩
      · rw [List.any_cons] at z
        cases z
theorem Pre.wide {M2 : Addr → Prop} (p : Pre K Tb C M H δ) (l : Le C H C' H') (p' : Pre K Tb C' M2 H' δ') (hc : ∀ (k : Nat) (ts : List D) (vs : List V), δ'[k]? = some ts → RepL K C' M2 H' ts vs → RepL K C' M H' ts vs) : Pre K Tb C' M H' δ' := by
  refine ⟨p'.tabs, p'.nd, p'.len, fun a ha z => ?_, fun a z => ?_, fun k ts e => ?_⟩
  · obtain ⟨xs, q⟩ := p.mh a z
    by_cases h : a ∈ C
    · exact p.cm a h z
    · exact (l.new a ha h).not q (fun ps z => by cases z)
  · obtain ⟨xs, q⟩ := p.mh a z
    exact ⟨xs, l.ext a _ q (fun h => p.cm a h z) (fun ps z => by cases z)⟩
  · obtain ⟨a, vs, e1, e2, r⟩ := p'.cells k ts e
    exact ⟨a, vs, e1, e2, hc k ts vs e r⟩
theorem Pre.sub {M2 : Addr → Prop} (p : Pre K Tb C M H δ) (hm : ∀ a, M2 a → M a) : Pre K Tb C M2 H δ :=
  ⟨p.tabs, p.nd, p.len, fun a h z => p.cm a h (hm a z), fun a z => p.mh a (hm a z), fun k ts e => by
    obtain ⟨a, vs, e1, e2, r⟩ := p.cells k ts e
    exact ⟨a, vs, e1, e2, RepL.sub hm ts vs r⟩⟩
theorem Pre.scope (p : Pre K Tb C M H δ) (l : Le C H C' H') (p' : Pre K Tb C' M H' δ') (hn : (δ'.take δ.length).all noCellL = true) : Pre K Tb C M H' (δ'.take δ.length) ∧ Le C H C H' := by
  obtain ⟨more, e⟩ := l.pre
  have hc : ∀ a, a ∈ C → a ∈ C' := fun a h => l.mem h
  have hl : (δ'.take δ.length).length = δ.length := by
    rw [List.length_take, ← p'.len, e, List.length_append, p.len]; omega
  refine ⟨⟨p'.tabs, p.nd, by rw [hl]; exact p.len, fun a h => p'.cm a (hc a h), p'.mh, fun k ts ek => ?_⟩, ⟨[], by simp⟩, fun a h n => absurd h n, l.ext⟩
  have hk : k < δ.length := by rw [← hl]; exact (List.getElem?_eq_some_iff.mp ek).1
  have ek' : δ'[k]? = some ts := by rw [List.getElem?_take_of_lt hk] at ek; exact ek
  obtain ⟨a, vs, e1, e2, r⟩ := p'.cells k ts ek'
  refine ⟨a, vs, ?_, e2, RepL.anyC hc ts vs (List.all_eq_true.mp hn ts (List.mem_of_getElem? ek)) r⟩
  rw [e, List.getElem?_append_left (by rw [p.len]; exact hk)] at e1
  exact e1
theorem Pre.newCell {a : Addr} {ts : List D} {vs : List V} (p : Pre K Tb C (fun x => M x ∨ x = a) H δ) (na : a ∉ C) (nm : ¬ M a) (h : H a = some (.lst vs)) (r : RepL K C (fun x => M x ∨ x = a) H ts vs) : Pre K Tb (C ++ [a]) M H (δ ++ [ts]) := by
  have up := Rep.upC (K := K) (C := C) (M := M) (H := H) (a := a)
  refine ⟨p.tabs, List.nodup_append.mpr ⟨p.nd, by simp, fun x hx y hy => ?_⟩, by simp [p.len], fun x hx z => ?_, fun x z => p.mh x (.inl z), fun k us e => ?_⟩
  · rw [List.mem_singleton.mp hy]
    exact fun z => na (by rw [← z]; exact hx)
  · rcases List.mem_append.mp hx with hx | hx
    · exact p.cm x hx (.inl z)
    · rw [List.mem_singleton.mp hx] at z; exact nm z
  · by_cases hk : k < δ.length
    · rw [List.getElem?_append_left hk] at e
      obtain ⟨b, ws, e1, e2, r2⟩ := p.cells k us e
      exact ⟨b, ws, by rw [List.getElem?_append_left (by rw [p.len]; exact hk)]; exact e1, e2, RepL.upC us ws r2⟩
    · rw [List.getElem?_append_right (by omega)] at e
      have hk0 : k - δ.length = 0 := by
        have := (List.getElem?_eq_some_iff.mp e).1
        simp at this; omega
      rw [hk0] at e
      cases e
      refine ⟨a, vs, ?_, h, RepL.upC _ _ r⟩
      rw [List.getElem?_append_right (by rw [p.len]; omega), p.len, hk0]
      rfl
end
end Mini

namespace Mini
open PySem PySem.Spec PyProof.Rows L2
section
variable {K : PySem.W.Frag} {P : Par} {Er : Errs K P.X} {Tb : List (Addr × Str)} {Gv : Nat → V}
theorem inl_ {M : Addr → Prop} {H : Hp} : ∀ a, M a → M a ∨ NT H a := fun a z => .inl z
theorem Snd.ofB {e : E} {f : Sig → Dl → R Bool} {g : WX → TE} (h1 : evA' P e = Ev.ofB f) (h2 : ∀ W, rd P Er Tb Gv e W = Rd.tst (g W) (tTest (g W))) (hf : isFresh e = false)
    (h : ∀ (W : WX) (C : List Addr) (M : Addr → Prop) (σ : Sig) (δ : Dl) (σv : L2.St) (H : Hp) (Q : VK), Pre K Tb C M H δ → Sl K C M H σ σv →
      RPost Er Tb C M H (f σ δ) (fun k _ _ H' => Q (.bl k) H') (wx W σv) → g W σv H Q) : Snd Er Tb Gv e := by
  refine Snd.tst (f := fun σ δ => (f σ δ).bind fun k δ => .ok (.bl k) δ) (f' := f) h1 h2 (fun W C M σ δ σv H Q p s q => ?_) (fun W C M σ δ σv H Q p s q => ?_)
  · exact h W C M σ δ σv H Q p s (RPost.mono (RPost.bind q) fun k δ' C' H' l p' q' => RPost.here p' q' (.bl k) mk_bl.repS (no_of hf))
  · exact h W C M σ δ σv H _ p s (RPost.mono q fun k δ' C' H' l p' q' => ⟨k, rfl, q'⟩)
variable {a b c : E}
theorem snd_two (ha : Snd Er Tb Gv a) (hb : Snd Er Tb Gv b) {α : Type} {f : D → D → Dl → R α} {W : WX} {C : List Addr} {M : Addr → Prop} {σ : Sig} {δ : Dl} {σv : L2.St} {H : Hp} {Qok : α → Dl → List Addr → Hp → Prop} {R2_ : V → V → Hp → Prop}
    (p : Pre K Tb C M H δ) (s : Sl K C M H σ σv) (q : RPost Er Tb C M H (((evA' P a).v σ δ).bind fun x δ => ((evA' P b).v σ δ).bind fun y δ => f x y δ) Qok (wx W σv))
    (h : ∀ x y δ' C' H' u v, Le C H C' H' → Pre K Tb C' M H' δ' → Sl K C' M H' σ σv → RepS K C' M H' x u → RepS K C' M H' y v → RPost Er Tb C' M H' (f x y δ') Qok (wx W σv) → R2_ u v H') :
    (rd P Er Tb Gv a W).v σv H fun u H1 => (rd P Er Tb Gv b W).v σv H1 fun v H2 => R2_ u v H2 := by
  refine ha.v W C M σ δ σv H _ p s (RPost.mono (RPost.bind q) fun x δ' C' H' l p' q' u ru _ => ?_)
  refine hb.v W C' M σ δ' σv H' _ p' (s.le p l) (RPost.mono (RPost.bind q') fun y δ2 C2 H2 l2 p2 q2 v rv _ => ?_)
  exact h x y δ2 C2 H2 u v (l.trans l2) p2 (s.le p (l.trans l2)) (ru.step p'.cellH l2 inl_) rv q2
theorem snd_bin {o : Operator} (ha : Snd Er Tb Gv a) (hb : Snd Er Tb Gv b) : Snd Er Tb Gv (.bin o a b) := by
  refine Snd.val rfl (fun W => rfl) fun W C M σ δ σv H Q p s q => ?_
  refine snd_two (R2_ := fun u v H2 => rBin K o u v H2 Q) ha hb p s q fun x y δ2 C2 H2 u v l p2 s2 ru rv q2 => ?_
  cases e : binD o x y with
  | none => rw [e] at q2; exact q2.elim
  | some z =>
    rw [e] at q2
    exact bin_ok p2 e ru rv (fr := isFresh (.bin o a b)) trivial (post_of l q2)
theorem snd_cmp {o : CmpOp} (ha : Snd Er Tb Gv a) (hb : Snd Er Tb Gv b) : Snd Er Tb Gv (.cmp o a b) := by
  refine Snd.ofB rfl (fun W => rfl) rfl fun W C M σ δ σv H Q p s q => ?_
  refine snd_two (R2_ := fun u v H2 => rCmp K o u v H2 Q) ha hb p s q fun x y δ2 C2 H2 u v l p2 s2 ru rv q2 => ?_
  obtain ⟨k, e, q3⟩ := RPost.of p2 q2
  exact cmp_ok e ru rv q3
theorem snd_chain {o o' : CmpOp} (ha : Snd Er Tb Gv a) (hb : Snd Er Tb Gv b) (hc : Snd Er Tb Gv c) : Snd Er Tb Gv (.chain o o' a b c) := by
  refine Snd.ofB rfl (fun W => rfl) rfl fun W C M σ δ σv H Q p s q => ?_
  refine snd_two (R2_ := fun u v H2 => rCmp K o u v H2 fun z H3 => ∃ k, z = .bl k ∧ (if k = true then (rd P Er Tb Gv c W).v σv H3 fun w' H4 => rCmp K o' v w' H4 Q else Q (.bl false) H3)) ha hb p s q fun x y δ2 C2 H2 u v l p2 s2 ru rv q2 => ?_
  obtain ⟨k, e, q3⟩ := RPost.of p2 (RPost.bind q2)
  refine cmp_ok e ru rv ⟨k, rfl, ?_⟩
  cases k with
  | false =>
    rw [if_neg Bool.false_ne_true] at q3 ⊢
    exact RPost.here p2 q3
  | true =>
    rw [if_pos rfl] at q3 ⊢
    refine hc.v W C2 M σ δ2 σv H2 _ p2 s2 (RPost.mono (RPost.bind q3) fun z δ3 C3 H3 l3 p3 q4 w rw_ _ => ?_)
    obtain ⟨k', e', q5⟩ := RPost.of p3 q4
    exact cmp_ok e' (rv.step p2.cellH l3 inl_) rw_ q5
theorem snd_and (ha : Snd Er Tb Gv a) (hb : Snd Er Tb Gv b) : Snd Er Tb Gv (.and a b) := by
  refine Snd.tst rfl (fun W => rfl) (fun W C M σ δ σv H Q p s q => ?_) (fun W C M σ δ σv H Q p s q => ?_)
  · refine ha.v W C M σ δ σv H _ p s (RPost.mono (RPost.bind q) fun x δ' C' H' l p' q' u ru _ => ?_)
    obtain ⟨k, e, q3⟩ := RPost.of p' (RPost.bind q')
    refine ⟨k, tru_ok e ru, ?_⟩
    cases k with
    | false =>
      rw [if_neg Bool.false_ne_true] at q3 ⊢
      exact RPost.here p' q3 u ru (no_of rfl)
    | true =>
      rw [if_pos rfl] at q3 ⊢
      exact hb.v W C' M σ δ' σv H' _ p' (s.le p l) (RPost.mono q3 fun z δ3 C3 H3 l3 p3 q4 w rw_ _ => q4 w rw_ (no_of rfl))
  · refine ha.t W C M σ δ σv H _ p s (RPost.mono (RPost.bind q) fun k δ' C' H' l p' q' => ?_)
    cases k with
    | false =>
      simp only [Bool.false_eq_true, if_false] at q' ⊢
      exact RPost.here p' q'
    | true =>
      simp only [if_true] at q' ⊢
      exact hb.t W C' M σ δ' σv H' _ p' (s.le p l) q'
theorem snd_or (ha : Snd Er Tb Gv a) (hb : Snd Er Tb Gv b) : Snd Er Tb Gv (.or a b) := by
  refine Snd.tst rfl (fun W => rfl) (fun W C M σ δ σv H Q p s q => ?_) (fun W C M σ δ σv H Q p s q => ?_)
  · refine ha.v W C M σ δ σv H _ p s (RPost.mono (RPost.bind q) fun x δ' C' H' l p' q' u ru _ => ?_)
    obtain ⟨k, e, q3⟩ := RPost.of p' (RPost.bind q')
    refine ⟨k, tru_ok e ru, ?_⟩
    cases k with
    | false =>
      rw [if_neg Bool.false_ne_true] at q3 ⊢
      exact hb.v W C' M σ δ' σv H' _ p' (s.le p l) (RPost.mono q3 fun z δ3 C3 H3 l3 p3 q4 w rw_ _ => q4 w rw_ (no_of rfl))
    | true =>
      rw [if_pos rfl] at q3 ⊢
      exact RPost.here p' q3 u ru (no_of rfl)
  · refine ha.t W C M σ δ σv H _ p s (RPost.mono (RPost.bind q) fun k δ' C' H' l p' q' => ?_)
    cases k with
    | false =>
      simp only [Bool.false_eq_true, if_false] at q' ⊢
      exact hb.t W C' M σ δ' σv H' _ p' (s.le p l) q'
    | true =>
      simp only [if_true] at q' ⊢
      exact RPost.here p' q'
theorem snd_not (ha : Snd Er Tb Gv a) : Snd Er Tb Gv (.not a) := by
  refine Snd.tst rfl (fun W => rfl) (fun W C M σ δ σv H Q p s q => ?_) (fun W C M σ δ σv H Q p s q => ?_)
  · refine ha.v W C M σ δ σv H _ p s (RPost.mono (RPost.bind q) fun x δ' C' H' l p' q' u ru _ => ?_)
    obtain ⟨k, e, q3⟩ := RPost.of p' (RPost.bind q')
    exact ⟨k, tru_ok e ru, RPost.here p' q3 _ mk_bl.repS (no_of rfl)⟩
  · exact ha.t W C M σ δ σv H _ p s (RPost.mono (RPost.bind q) fun k δ' C' H' l p' q' => RPost.here p' q')
theorem snd_ite (hc : Snd Er Tb Gv c) (ha : Snd Er Tb Gv a) (hb : Snd Er Tb Gv b) : Snd Er Tb Gv (.ite c a b) := by
  refine Snd.tst rfl (fun W => rfl) (fun W C M σ δ σv H Q p s q => ?_) (fun W C M σ δ σv H Q p s q => q.elim)
  refine hc.t W C M σ δ σv H _ p s (RPost.mono (RPost.bind q) fun k δ' C' H' l p' q' => ?_)
  cases k with
  | false =>
    simp only [Bool.false_eq_true, if_false] at q' ⊢
    exact hb.v W C' M σ δ' σv H' _ p' (s.le p l) (RPost.mono q' fun z δ3 C3 H3 l3 p3 q4 w rw_ _ => q4 w rw_ (no_of rfl))
  | true =>
    simp only [if_true] at q' ⊢
    exact ha.v W C' M σ δ' σv H' _ p' (s.le p l) (RPost.mono q' fun z δ3 C3 H3 l3 p3 q4 w rw_ _ => q4 w rw_ (no_of rfl))
theorem snd_neg (ha : Snd Er Tb Gv a) : Snd Er Tb Gv (.neg a) := by
  refine Snd.val rfl (fun W => rfl) fun W C M σ δ σv H Q p s q => ?_
  refine ha.v W C M σ δ σv H _ p s (RPost.mono (RPost.bind q) fun x δ' C' H' l p' q' u ru _ => ?_)
  obtain ⟨z, e, q3⟩ := RPost.of p' q'
  cases x <;> simp only [negD] at e <;> cases e
  exact ⟨_, rep_int (ru.rep rfl), q3 _ mk_int.repS (no_of rfl)⟩
theorem snd_tup (ha : Snd Er Tb Gv a) : Snd Er Tb Gv (.tup a) := by
  refine Snd.val rfl (fun W => rfl) fun W C M σ δ σv H Q p s q => ?_
  refine ha.a W C M σ δ σv H _ p s (RPost.mono (RPost.bind q) fun ds δ' C' H' l p' q' vs r => ?_)
  unfold seqE at q'
  split at q'
  · exact q'.elim
  · rename_i hn
    rw [Bool.or_eq_true, not_or, Bool.not_eq_true, decide_eq_true_eq] at hn
    exact ⟨by rw [r.length, sizeLine_eq]; omega, (post_of (fr := false) l (fun C' H' l p x r _ => q' C' H' l p x r (no_of rfl))).tup p' (r.repL hn.1)⟩
theorem snd_lst (ha : Snd Er Tb Gv a) : Snd Er Tb Gv (.lst a) := by
  refine Snd.val rfl (fun W => rfl) fun W C M σ δ σv H Q p s q => ?_
  refine ha.a W C M σ δ σv H _ p s (RPost.mono (RPost.bind q) fun ds δ' C' H' l p' q' vs r => ?_)
  unfold seqE at q'
  split at q'
  · exact q'.elim
  · rename_i hn
    rw [Bool.or_eq_true, not_or, Bool.not_eq_true, decide_eq_true_eq] at hn
    exact ⟨by rw [r.length, sizeLine_eq]; omega, (post_of (fr := true) l q').lst p' (r.repL hn.1)⟩
theorem snd_idx (ha : Snd Er Tb Gv a) (hb : Snd Er Tb Gv b) : Snd Er Tb Gv (.idx a b) := by
  refine Snd.val rfl (fun W => rfl) fun W C M σ δ σv H Q p s q => ?_
  refine snd_two (R2_ := fun u v H2 => rIx K u v H2 Q) ha hb p s q fun x y δ2 C2 H2 u v l p2 s2 ru rv q2 => ?_
  obtain ⟨z, e, q3⟩ := RPost.of p2 q2
  exact idx_ok p2 e ru rv fun w rw_ => q3 w rw_.repS (no_of rfl)
theorem ls_of {x : D} (h : (mlst x).isSome = true) : ∃ ts, x = .lst ts ∨ x = .own ts := by
  cases x <;> first | cases h | skip
  case lst ts => exact ⟨ts, .inl rfl⟩
  case own ts => exact ⟨ts, .inr rfl⟩
theorem snd_cnt (ha : Snd Er Tb Gv a) (hb : Snd Er Tb Gv b) : Snd Er Tb Gv (.cnt a b) := by
  refine Snd.val rfl (fun W => rfl) fun W C M σ δ σv H Q p s q => ?_
  refine ha.v W C M σ δ σv H _ p s (RPost.mono (RPost.bind q) fun x δ' C' H' l p' q' u ru _ => ?_)
  split at q'
  · rename_i hl
    obtain ⟨ts, et⟩ := ls_of hl
    obtain ⟨ad, vs, e1, e2, e3⟩ := mlst_rep ru et
    refine ⟨by rw [e1]; exact .inl ⟨rfl, vs, SqL.of e2⟩, ?_⟩
    refine hb.v W C' M σ δ' σv H' _ p' (s.le p l) (RPost.mono (RPost.bind q') fun y δ2 C2 H2 l2 p2 q2 v rv _ => ?_)
    obtain ⟨z, e, q3⟩ := RPost.of p2 q2
    have ru2 := ru.step p'.cellH l2 inl_
    obtain ⟨ad2, vs2, g1, g2, g3⟩ := mlst_rep ru2 et
    unfold cntD at e
    split at e
    · rename_i ds d q4 q5
      split at e
      · rename_i hs
        rw [Bool.and_eq_true] at hs
        cases e
        have d1 := dpS_of ru2 q4
        rw [g1] at d1
        exact ⟨ad2, v, d, ds, g1, rfl, d1, dpS_of rv q5, hs.1, hs.2, q3 _ mk_int.repS (no_of rfl)⟩
      · cases e
    · cases e
  · exact q'.elim
theorem snd_slc {lo hi : E} (ha : Snd Er Tb Gv a) (hl : Snd Er Tb Gv lo) (hh : Snd Er Tb Gv hi) : Snd Er Tb Gv (.slc a lo hi) := by
  refine Snd.val rfl (fun W => rfl) fun W C M σ δ σv H Q p s q => ?_
  refine ha.v W C M σ δ σv H _ p s (RPost.mono (RPost.bind q) fun x δ' C' H' l p' q' u ru _ => ?_)
  refine hl.o W C' M σ δ' σv H' _ p' (s.le p l) (RPost.mono (RPost.bind q') fun i δ2 C2 H2 l2 p2 q2 => ?_)
  refine hh.o W C2 M σ δ2 σv H2 _ p2 (s.le p (l.trans l2)) (RPost.mono (RPost.bind q2) fun j δ3 C3 H3 l3 p3 q3 => ?_)
  cases e : slcD δ3 x i j with
  | none => rw [e] at q3; exact q3.elim
  | some z =>
    rw [e] at q3
    exact slc_ok p3 e (ru.step p'.cellH (l2.trans l3) inl_) (post_of (fr := true) ((l.trans l2).trans l3) q3)
theorem snd_blt {f : Blt} (ha : Snd Er Tb Gv a) : Snd Er Tb Gv (.blt f a) := by
  refine Snd.val rfl (fun W => rfl) fun W C M σ δ σv H Q p s q => ?_
  refine ha.a W C M σ δ σv H _ p s (RPost.mono (RPost.bind q) fun ds δ' C' H' l p' q' vs r => ?_)
  cases e : bltD δ' f ds with
  | none => rw [e] at q'; exact q'.elim
  | some z =>
    rw [e] at q'
    exact blt_ok p' e r (fr := isFresh (.blt f a)) (post_of l q')
theorem snd_call {f : Nat} (ha : Snd Er Tb Gv a) : Snd Er Tb Gv (.call f a) := by
  refine Snd.val rfl (fun W => rfl) fun W C M σ δ σv H Q p s q => ?_
  refine ha.a W C M σ δ σv H _ p s (RPost.mono (RPost.bind q) fun ds δ' C' H' l p' q' vs r => ?_)
  obtain ⟨bs, rb, hb⟩ := r.demote
  refine ⟨C', fun a => M a ∧ a ∉ bs, ds.map demote, δ', p'.sub fun a z => z.1, rb, ?_⟩
  unfold callE at q'
  cases hF : P.F f (ds.map demote) δ' with
  | bad => rw [hF] at q'; exact q'.elim
  | ok d δ2 =>
    rw [hF] at q'
    simp only at q'
    split at q'
    · exact q'.elim
    · rename_i hn
      rw [Bool.or_eq_true, not_or, Bool.not_eq_true, Bool.not_eq_true] at hn
      obtain ⟨h1, h2⟩ := hn
      intro C2 H2 l2 p2
      refine ⟨h1, fun v rv => ?_⟩
      cases ho : ds.any isOwn with
      | false =>
        have eb := hb ho
        subst eb
        have up : ∀ a, M a → M a ∧ a ∉ ([] : List Addr) := fun a z => ⟨z, by simp⟩
        exact q' C2 H2 l2 (p2.sub up) v (Rep.sub up d v rv).repS (no_of rfl)
      | true =>
        rw [ho, Bool.true_and, Bool.not_eq_false', Bool.and_eq_true] at h2
        exact q' C2 H2 l2 (p'.wide l2 p2 fun k ts vs e rr => RepL.anyM ts vs (List.all_eq_true.mp h2.2 ts (List.mem_of_getElem? e)) rr) v (Rep.anyM d v h2.1 rv).repS (no_of rfl)
  | ex c pl δ2 =>
    rw [hF] at q'
    simp only at q'
    split at q'
    · exact q'.elim
    · rename_i h2
      rw [Bool.not_eq_true] at h2
      intro C2 H2 cls d l2 p2 x
      cases ho : ds.any isOwn with
      | false =>
        have eb := hb ho
        subst eb
        have up : ∀ a, M a → M a ∧ a ∉ ([] : List Addr) := fun a z => ⟨z, by simp⟩
        refine q' C2 H2 cls d l2 (p2.sub up) ⟨x.1, x.2.1, ?_⟩
        cases pl with
        | nil => trivial
        | cons t r =>
          obtain ⟨dd, v, e1, e2, e3⟩ := x.2.2
          exact ⟨dd, v, e1, e2, Rep.sub up t v e3⟩
      | true =>
        rw [ho, Bool.true_and, Bool.not_eq_false', Bool.and_eq_true] at h2
        refine q' C2 H2 cls d l2 (p'.wide l2 p2 fun k ts vs e rr => RepL.anyM ts vs (List.all_eq_true.mp h2.2 ts (List.mem_of_getElem? e)) rr) ⟨x.1, x.2.1, ?_⟩
        cases pl with
        | nil => trivial
        | cons t r =>
          obtain ⟨dd, v, e1, e2, e3⟩ := x.2.2
          have := h2.1
          simp only [noLstL, Bool.and_eq_true] at this
          exact ⟨dd, v, e1, e2, Rep.anyM t v this.1 e3⟩
theorem snd_nil : Snd Er Tb Gv .nil := Snd.arg rfl (fun W => rfl) fun W C M σ δ σv H Q p s q => RPost.here p q [] rfl
theorem snd_cons (ha : Snd Er Tb Gv a) (hb : Snd Er Tb Gv b) : Snd Er Tb Gv (.cons a b) := by
  refine Snd.arg rfl (fun W => rfl) fun W C M σ δ σv H Q p s q => ?_
  refine ha.v W C M σ δ σv H _ p s (RPost.mono (RPost.bind q) fun x δ' C' H' l p' q' u ru _ => ?_)
  refine hb.a W C' M σ δ' σv H' _ p' (s.le p l) (RPost.mono (RPost.bind q') fun ds δ2 C2 H2 l2 p2 q2 vs r => ?_)
  exact RPost.here p2 q2 _ ⟨u, vs, rfl, ru.step p'.cellH l2 inl_, r⟩
theorem snd_np : Snd Er Tb Gv .np := by
  refine ⟨fun W C M σ δ σv H Q p s q => q.elim, fun W C M σ δ σv H Q p s q => RPost.here p q, fun W C M σ δ σv H Q p s q => RPost.here p q, fun W C M σ δ σv H Q p s q => q.elim⟩
theorem RepS.subM {C : List Addr} {M M' : Addr → Prop} {H : Hp} (hm : ∀ a, M' a → M a) {t : D} {v : V} (h : RepS K C M H t v) : RepS K C M' H t v := by
  cases t
  case own ts =>
    obtain ⟨a, vs, e, nc, s, r⟩ := h
    exact ⟨a, vs, e, nc, s, RepL.sub hm ts vs r⟩
  all_goals exact Rep.sub hm _ _ h
theorem lend_slots {i : Nat} {ts : List D} {C : List Addr} {M : Addr → Prop} {H : Hp} {σ : Sig} {σv : L2.St} {δ : Dl} (p : Pre K Tb C M H δ) (s : Sl K C M H σ σv) (e : ownAt σ i = some ts) :
    ∃ ad, Sl K C (fun x => M x ∧ x ≠ ad) H (σ.set i (some (.lst ts))) σv := by
  have e' : σ[i]? = some (some (.own ts)) := by
    unfold ownAt at e
    split at e
    · rename_i us h
      cases e
      exact h
    · cases e
  obtain ⟨v, e1, r⟩ := s.at_ i _ e'
  obtain ⟨ad, vs, e2, nc, h, rl⟩ := rep_own r
  subst e2
  refine ⟨ad, by rw [List.length_set]; exact s.len, fun j d hj => ?_⟩
  by_cases hij : i = j
  · subst hij
    rw [List.getElem?_set_self (List.getElem?_eq_some_iff.mp e').1] at hj
    cases hj
    refine ⟨_, e1, ?_⟩
    show Rep K C _ H (.lst ts) (.ref ad)
    unfold Rep
    exact ⟨ad, vs, rfl, fun z => z.2 rfl, nc, h, RepL.sub (fun a z => z.1) ts vs rl⟩
  · rw [List.getElem?_set_ne hij] at hj
    obtain ⟨v, h1, h2⟩ := s.at_ j d hj
    exact ⟨v, h1, h2.subM fun a z => z.1⟩
theorem snd_lend {i : Nat} (ha : Snd Er Tb Gv a) : Snd Er Tb Gv (.lend i a) := by
  refine Snd.tst rfl (fun W => rfl) (fun W C M σ δ σv H Q p s q => ?_) fun W C M σ δ σv H Q p s q => ?_
  · cases e : ownAt σ i with
    | none => rw [e] at q; exact q.elim
    | some ts =>
      rw [e] at q
      have q : RPost Er Tb C M H (lendE (isFresh a) ((evA' P a).v (σ.set i (some (.lst ts))) δ)) (fun d δ' C' H' => ∀ x, RepS K C' M H' d x → (isFresh a = true → Frs K Tb M H C' H' δ' d x) → Q x H') (wx W σv) := q
      obtain ⟨ad, s'⟩ := lend_slots p s e
      refine ha.v W C (fun x => M x ∧ x ≠ ad) _ δ σv H Q (p.sub fun a z => z.1) s' ?_
      cases ev : (evA' P a).v (σ.set i (some (.lst ts))) δ with
      | bad => rw [ev] at q; exact q.elim
      | ok d δ' =>
        rw [ev] at q
        unfold lendE at q
        simp only at q
        split at q
        · rename_i hn
          rw [Bool.and_eq_true] at hn
          intro C' H' l p' x r f
          have cells : ∀ (M2 : Addr → Prop) (k : Nat) (us : List D) (vs : List V), δ'[k]? = some us → RepL K C' (fun x => M x ∧ x ≠ ad) H' us vs → RepL K C' M2 H' us vs := fun M2 k us vs ek rr => RepL.anyM us vs (List.all_eq_true.mp hn.2 us (List.mem_of_getElem? ek)) rr
          have pw : Pre K Tb C' M H' δ' := p.wide l p' (cells M)
          have frs : isFresh a = true → Frs K Tb M H C' H' δ' d x := fun hf ys ed => by
            obtain ⟨a', vs', h1, h2, h3, h4, h5, h6⟩ := f hf ys ed
            have hy : noLstL ys = true := by
              have := hn.1
              unfold lendOk at this
              subst ed
              have n0 : noLst (.lst ys) = false := rfl
              rw [n0, hf] at this
              simpa using this
            refine ⟨a', vs', h1, h2, h3, h4, ⟨h5.tabs, h5.nd, h5.len, fun b hb z => ?_, fun b z => ?_, fun k us ek => ?_⟩, RepL.anyM ys vs' hy h6⟩
            · rcases z with z | z
              · exact pw.cm b hb z
              · exact h3 (z ▸ hb)
            · rcases z with z | z
              · exact pw.mh b z
              · exact ⟨vs', z ▸ h4⟩
            · obtain ⟨b, us', z1, z2, z3⟩ := p'.cells k us ek
              exact ⟨b, us', z1, z2, cells _ k us us' ek z3⟩
          refine q C' H' l pw x ?_ frs
          by_cases hl : noLst d = true
          · have ho : isOwn d = false := by cases d <;> first | rfl | (unfold noLst at hl; cases hl)
            exact (Rep.anyM d x hl (r.rep ho)).repS
          · have h1 := hn.1
            unfold lendOk at h1
            rw [Bool.or_eq_true, Bool.and_eq_true] at h1
            rcases h1 with h1 | ⟨hf, h1⟩
            · exact absurd h1 hl
            · cases d <;> first | cases h1 | skip
              case lst ys =>
              obtain ⟨a', vs', g1, g2, g3, g4, g5, g6⟩ := frs hf ys rfl
              show Rep K C' M H' (.lst ys) x
              unfold Rep
              refine ⟨a', vs', g1, fun z => ?_, g3, g4, RepL.sub (fun b z => .inl z) ys vs' g6⟩
              obtain ⟨xs, hx⟩ := p.mh a' z
              exact g2.not hx fun ps z => by cases z
        · exact q.elim
      | ex c pl δ' =>
        rw [ev] at q
        unfold lendE at q
        simp only at q
        split at q
        · rename_i hn
          rw [Bool.and_eq_true] at hn
          intro C' H' cls d l p' x
          refine q C' H' cls d l (p.wide l p' fun k us vs ek rr => RepL.anyM us vs (List.all_eq_true.mp hn.2 us (List.mem_of_getElem? ek)) rr) ⟨x.1, x.2.1, ?_⟩
          cases pl with
          | nil => trivial
          | cons t r =>
            obtain ⟨dd, v, e1, e2, e3⟩ := x.2.2
            have := hn.1
            simp only [noLstL, Bool.and_eq_true] at this
            exact ⟨dd, v, e1, e2, Rep.anyM t v this.1 e3⟩
        · exact q.elim
  · cases e : ownAt σ i with
    | none => rw [e] at q; exact q.elim
    | some ts =>
      rw [e] at q
      have q : RPost Er Tb C M H (lendT ((evA' P a).t (σ.set i (some (.lst ts))) δ)) (fun k _ _ H' => Q k H') (wx W σv) := q
      obtain ⟨ad, s'⟩ := lend_slots p s e
      refine ha.t W C (fun x => M x ∧ x ≠ ad) _ δ σv H Q (p.sub fun a z => z.1) s' ?_
      cases ev : (evA' P a).t (σ.set i (some (.lst ts))) δ with
      | bad => rw [ev] at q; exact q.elim
      | ok d δ' =>
        rw [ev] at q
        unfold lendT at q
        simp only at q
        split at q
        · rename_i hn
          intro C' H' l p'
          exact q C' H' l (p.wide l p' fun k us vs ek rr => RepL.anyM us vs (List.all_eq_true.mp hn us (List.mem_of_getElem? ek)) rr)
        · exact q.elim
      | ex c pl δ' =>
        rw [ev] at q
        unfold lendT at q
        simp only at q
        split at q
        · rename_i hn
          rw [Bool.and_eq_true] at hn
          intro C' H' cls d l p' x
          refine q C' H' cls d l (p.wide l p' fun k us vs ek rr => RepL.anyM us vs (List.all_eq_true.mp hn.2 us (List.mem_of_getElem? ek)) rr) ⟨x.1, x.2.1, ?_⟩
          cases pl with
          | nil => trivial
          | cons t r =>
            obtain ⟨dd, v, e1, e2, e3⟩ := x.2.2
            have := hn.1
            simp only [noLstL, Bool.and_eq_true] at this
            exact ⟨dd, v, e1, e2, Rep.anyM t v this.1 e3⟩
        · exact q.elim
theorem snd_scope (ha : Snd Er Tb Gv a) : Snd Er Tb Gv (.scope a) := by
  refine Snd.tst rfl (fun W => rfl) (fun W C M σ δ σv H Q p s q => ?_) fun W C M σ δ σv H Q p s q => q.elim
  refine ha.v W C M σ δ σv H _ p s ?_
  cases e : (evA' P a).v σ δ with
  | bad => rw [e] at q; exact q.elim
  | ok d δ' =>
    rw [e] at q
    unfold scopeE at q
    simp only at q
    split at q
    · rename_i hn
      rw [Bool.and_eq_true] at hn
      intro C' H' l p' x r _
      obtain ⟨p2, l2⟩ := p.scope l p' hn.2
      exact q C H' l2 p2 x (r.anyC (fun a h => l.mem h) hn.1) (no_of rfl)
    · exact q.elim
  | ex c pl δ' =>
    rw [e] at q
    unfold scopeE at q
    simp only at q
    split at q
    · rename_i hn
      rw [Bool.and_eq_true] at hn
      intro C' H' cls d l p' x
      obtain ⟨p2, l2⟩ := p.scope l p' hn.2
      refine q C H' cls d l2 p2 ⟨x.1, x.2.1, ?_⟩
      cases pl with
      | nil => trivial
      | cons t r =>
        obtain ⟨dd, v, e1, e2, e3⟩ := x.2.2
        have := hn.1
        simp only [noCellL, Bool.and_eq_true] at this
        exact ⟨dd, v, e1, e2, Rep.anyC (fun a h => l.mem h) t v this.1 e3⟩
    · exact q.elim
theorem snd_newc (ha : Snd Er Tb Gv a) : Snd Er Tb Gv (.newc a) := by
  refine Snd.tst rfl (fun W => rfl) (fun W C M σ δ σv H Q p s q => ?_) fun W C M σ δ σv H Q p s q => q.elim
  split at q
  · rename_i hf
    refine ha.v W C M σ δ σv H _ p s ?_
    cases e : (evA' P a).v σ δ with
    | bad => rw [e] at q; exact q.elim
    | ex c pl δ' => rw [e] at q; exact q
    | ok d δ' =>
      rw [e] at q
      cases d <;> first | exact q.elim | skip
      case lst ts =>
      intro C' H' l p' x r f
      obtain ⟨ad, vs, e1, nt, nc, ha', pf, rf⟩ := f hf ts rfl
      have nm : ¬ M ad := by
        obtain ⟨b, ws, e2, nm, _⟩ := rep_lst (r.rep rfl)
        rw [e1] at e2; cases e2
        exact nm
      have l2 : Le C H (C' ++ [ad]) H' := by
        refine ⟨?_, fun z hz n => ?_, l.ext⟩
        · obtain ⟨m, em⟩ := l.pre
          exact ⟨m ++ [ad], by rw [em, List.append_assoc]⟩
        · rcases List.mem_append.mp hz with hz | hz
          · exact l.new z hz n
          · rw [List.mem_singleton.mp hz]; exact nt
      have q' : RPost Er Tb C M H (.ok (.cell δ'.length) (δ' ++ [ts])) (fun d δ' C' H' => ∀ x, RepS K C' M H' d x → (isFresh (.newc a) = true → Frs K Tb M H C' H' δ' d x) → Q x H') (wx W σv) := q
      refine q' (C' ++ [ad]) H' l2 (pf.newCell nc nm ha' rf) x ?_ (no_of rfl)
      rw [e1]
      show Rep K _ _ _ _ _
      unfold Rep
      exact ⟨ad, rfl, by rw [← p'.len]; simp⟩
  · exact q.elim
theorem snd_var {i : Nat} : Snd Er Tb Gv (.var i) := by
  refine Snd.val rfl (fun W => rfl) fun W C M σ δ σv H Q p s q => ?_
  split at q
  · rename_i d e
    obtain ⟨v, h1, h2⟩ := s.at_ i d e
    exact ⟨v, h1, RPost.here p q v h2 (no_of rfl)⟩
  · exact q.elim
theorem snd_lc {vs : List Nat} {g : G} {k : IK} {it ec ee : E} (hi : Snd Er Tb Gv it) (hc : Snd Er Tb Gv ec) (he : Snd Er Tb Gv ee) : Snd Er Tb Gv (.lc vs g k it ec ee) := by
  refine Snd.val rfl (fun W => rfl) fun W C M σ δ σv H Q p s q => ?_
  refine hi.a W C M σ δ σv H _ p s (RPost.mono (RPost.bind q) fun ds δ1 C1 H1 l1 p1 q1 us r => ?_)
  cases ei : itemsD δ1 k ds with
  | none => rw [ei] at q1; exact q1.elim
  | some xs =>
    rw [ei] at q1
    simp only at q1
    split at q1
    · exact q1.elim
    · rename_i hn
      rw [Bool.or_eq_true, not_or, decide_eq_true_eq, Bool.not_eq_true, Bool.not_eq_false'] at hn
      obtain ⟨Gh, J, gh, w, fin⟩ := items_ok (Tb := Tb) ei r
      refine fin _ fun Dd hD => ?_
      have hg : ∀ i, i ∈ gSlots g → i ∈ vs := fun i hi => by
        have := List.all_eq_true.mp hn.2 i hi
        simpa using this
      cases eg : lcGo g (evA' P ec).t (evA' P ee).v (wipeD σ vs) xs δ1 with
      | bad => rw [eg] at q1; exact q1.elim
      | ex c pl d => 
        exact absurd eg (lcGo_noex _ _ _ _ _ _)
      | ok ys δ2 =>
        rw [eg] at q1
        have q2 : RPost Er Tb C1 M H1 (R.ok (D.lst ys) δ2) (fun d δ' C' H' => ∀ x, RepS K C' M H' d x → (isFresh (.lc vs g k it ec ee) = true → Frs K Tb M H C' H' δ' d x) → Q x H') (wx W σv) := q1
        refine lc_ok hc he w hg (by omega) p1 (s.le p l1) gh hD eg fun C' H' ws l p' nD hd rr => ?_
        have nm : ¬ M Dd := (p1.fresh hD).1
        have pM : Pre K Tb C' M H' δ2 := p'.sub fun a z => .inl z
        refine q2 C' H' l pM (.ref Dd) ?_ fun _ ts e => ?_
        · show Rep K _ _ _ _ _
          unfold Rep
          exact ⟨Dd, ws, rfl, nm, nD, hd, RepL.sub (fun a z => .inl z) _ _ rr⟩
        · cases e
          exact ⟨Dd, ws, rfl, (NT.of_none hD).back l1.ext (fun z => nD (l.mem (l1.mem z))), nD, hd, p', rr⟩
where
  lcGo_noex (g : G) (c : Sig → Dl → R Bool) (e : Sig → Dl → R D) (σw : Sig) : ∀ (xs : List D) (δ : Dl) {c' : Str} {pl : List D} {d : Dl}, lcGo g c e σw xs δ ≠ .ex c' pl d
    | [], δ, _, _, _ => fun z => by cases z
    | x :: xs, δ, c', pl, d => fun z => by
      unfold lcGo at z
      split at z
      · cases z
      · rename_i σ2 _
        cases h1 : c σ2 δ with
        | bad => rw [h1] at z; cases z
        | ex _ _ _ => rw [h1] at z; cases z
        | ok b δ1 =>
          rw [h1] at z
          simp only [R.noex, R.bind] at z
          split at z
          · cases h2 : e σ2 δ1 with
            | bad => rw [h2] at z; cases z
            | ex _ _ _ => rw [h2] at z; cases z
            | ok y δ2 =>
              rw [h2] at z
              simp only at z
              split at z
              · cases z
              · cases h3 : lcGo g c e σw xs δ2 with
                | bad => rw [h3] at z; cases z
                | ex _ _ _ => exact lcGo_noex g c e σw xs δ2 h3
                | ok ys δ3 => rw [h3] at z; cases z
          · exact lcGo_noex g c e σw xs δ1 z
theorem gxGo_noex (b : Bool) (g : G) (c : Sig → Dl → R Bool) (e : Sig → Dl → R D) (σw : Sig) : ∀ (xs : List D) (δ : Dl) {c' : Str} {pl : List D} {d : Dl}, gxGo b g c e σw xs δ ≠ .ex c' pl d
  | [], δ, _, _, _ => fun z => by cases z
  | x :: xs, δ, c', pl, d => fun z => by
    unfold gxGo at z
    split at z
    · cases z
    · rename_i σ2 _
      cases h1 : c σ2 δ with
      | bad => rw [h1] at z; cases z
      | ex _ _ _ => rw [h1] at z; cases z
      | ok k δ1 =>
        rw [h1] at z
        simp only [R.noex, R.bind] at z
        split at z
        · cases h2 : e σ2 δ1 with
          | bad => rw [h2] at z; cases z
          | ex _ _ _ => rw [h2] at z; cases z
          | ok y δ2 =>
            rw [h2] at z
            simp only at z
            obtain ⟨r, rfl⟩ : ∃ r, y = .bl r := by cases y <;> first | exact ⟨_, rfl⟩ | cases z
            simp only at z
            split at z
            · cases z
            · exact gxGo_noex b g c e σw xs δ2 z
        · exact gxGo_noex b g c e σw xs δ1 z
theorem snd_gx {b : Bool} {vs : List Nat} {g : G} {k : IK} {it ec ee : E} (hi : Snd Er Tb Gv it) (hc : Snd Er Tb Gv ec) (he : Snd Er Tb Gv ee) : Snd Er Tb Gv (.gx b vs g k it ec ee) := by
  refine Snd.val rfl (fun W => rfl) fun W C M σ δ σv H Q p s q => ?_
  refine hi.a W C M σ δ σv H _ p s (RPost.mono (RPost.bind q) fun ds δ1 C1 H1 l1 p1 q1 us r => ?_)
  cases ei : itemsD δ1 k ds with
  | none => rw [ei] at q1; exact q1.elim
  | some xs =>
    rw [ei] at q1
    simp only at q1
    split at q1
    · exact q1.elim
    · rename_i hn
      rw [Bool.or_eq_true, not_or, decide_eq_true_eq, Bool.not_eq_true, Bool.not_eq_false'] at hn
      obtain ⟨Gh, J, gh, w, fin⟩ := items_ok (Tb := Tb) ei r
      refine fin _ ⟨p1.tabs, fun H2 eN T1 => ?_⟩
      have l2 : Le C1 H1 C1 H2 := ⟨⟨[], by simp⟩, fun a h n => absurd h n, fun a o h _ hn => eN a o h hn⟩
      have p2 : Pre K Tb C1 M H2 δ1 := by
        refine ⟨T1, p1.nd, p1.len, p1.cm, fun a m => ?_, fun k ts e => ?_⟩
        · obtain ⟨xs, h⟩ := p1.mh a m
          exact ⟨xs, eN a _ h (fun ps z => by cases z)⟩
        · obtain ⟨a, vs, e1, e2, r⟩ := p1.cells k ts e
          exact ⟨a, vs, e1, eN a _ e2 (fun ps z => by cases z), RepL.step p1.cellH l2 inl_ ts vs r⟩
      have hg : ∀ i, i ∈ gSlots g → i ∈ vs := fun i hi => by
        have := List.all_eq_true.mp hn.2 i hi
        simpa using this
      cases eg : gxGo b g (evA' P ec).t (evA' P ee).v (wipeD σ vs) xs δ1 with
      | bad => rw [eg] at q1; exact q1.elim
      | ex c pl d => exact absurd eg (gxGo_noex _ _ _ _ _ _ _)
      | ok r0 δ2 =>
        rw [eg] at q1
        have q2 : RPost Er Tb C1 M H1 (R.ok (D.bl r0) δ2) (fun d δ' C' H' => ∀ x, RepS K C' M H' d x → (isFresh (.gx b vs g k it ec ee) = true → Frs K Tb M H C' H' δ' d x) → Q x H') (wx W σv) := q1
        exact gx_ok hc he w hg p2 ((s.le p l1).le p1 l2) (fun x hx => Rep.step p1.cellH l2 inl_ _ _ (gh x hx)) eg fun C' H' l p' => q2 C' H' (l2.trans l) p' (.bl r0) mk_bl.repS (no_of rfl)
theorem findH_ok {hs : List (Str × Str)} {c s : Str} {cls : Value} {Q : VK} {H : Hp} (hc : c ∈ P.X) (e : findH P.X c hs = some s) (hcls : cls = Er.xv c) (q : Q (.str s) H) {d : Option Addr} : wStr K Er.xv Q hs cls d H := by
  induction hs with
  | nil => cases e
  | cons x r ih =>
    obtain ⟨c', s'⟩ := x
    unfold findH at e
    split at e
    · rename_i hx
      have hx' : c' ∈ P.X := by simpa using hx
      refine ⟨decide (c = c'), by rw [hcls]; exact Er.is c hc c' hx', fun z => ?_, fun z => ?_⟩
      · rw [if_pos (of_decide_eq_true z)] at e
        cases e
        exact q
      · rw [if_neg (of_decide_eq_false z)] at e
        exact ih e
    · cases e
theorem snd_told {hs : List (Str × Str)} (ha : Snd Er Tb Gv a) : Snd Er Tb Gv (.told hs a) := by
  refine Snd.val rfl (fun W => rfl) fun W C M σ δ σv H Q p s q => ?_
  refine ⟨p.tabs, fun H1 eN T1 => ?_⟩
  have l1 : Le C H C H1 := ⟨⟨[], by simp⟩, fun a h n => absurd h n, fun a o h _ hn => eN a o h hn⟩
  have p1 : Pre K Tb C M H1 δ := by
    refine ⟨T1, p.nd, p.len, p.cm, fun a m => ?_, fun k ts e => ?_⟩
    · obtain ⟨xs, h⟩ := p.mh a m
      exact ⟨xs, eN a _ h (fun ps z => by cases z)⟩
    · obtain ⟨a, vs, e1, e2, r⟩ := p.cells k ts e
      exact ⟨a, vs, e1, eN a _ e2 (fun ps z => by cases z), RepL.step p.cellH l1 inl_ ts vs r⟩
  refine ha.v (fun cls d _ H => wStr K Er.xv Q hs cls d H) C M σ δ σv H1 Q p1 (s.le p l1) ?_
  have q := q.le l1
  cases e : (evA' P a).v σ δ with
  | bad => rw [e] at q; exact q.elim
  | ok d δ' =>
    rw [e] at q
    unfold toldE at q
    simp only at q
    split at q
    · exact q.elim
    · exact fun C' H' l p' x r _ => q C' H' l p' x r (no_of rfl)
  | ex c pl δ' =>
    rw [e] at q
    unfold toldE at q
    simp only at q
    split at q
    · rename_i t ef
      intro C' H' cls d l p' x
      exact findH_ok x.1 ef x.2.1 (q C' H' l p' (.str t) mk_str.repS (no_of rfl))
    · exact q.elim
theorem snd (hG : ∀ g C M H, Rep K C M H (P.G g) (Gv g)) : ∀ e : E, Snd Er Tb Gv e
  | .var i => snd_var
  | .int i => Snd.con rfl (fun _ => rfl) rfl fun _ _ _ => mk_int
  | .bl b => Snd.con rfl (fun _ => rfl) rfl fun _ _ _ => mk_bl
  | .non => Snd.con rfl (fun _ => rfl) rfl fun _ _ _ => mk_non
  | .str s => Snd.con rfl (fun _ => rfl) rfl fun _ _ _ => mk_str
  | .ty n => Snd.con rfl (fun _ => rfl) rfl fun _ _ _ => mk_ty
  | .glob g => Snd.con rfl (fun _ => rfl) rfl (hG g)
  | .bin o a b => snd_bin (snd hG a) (snd hG b)
  | .neg a => snd_neg (snd hG a)
  | .cmp o a b => snd_cmp (snd hG a) (snd hG b)
  | .chain o o' a b c => snd_chain (snd hG a) (snd hG b) (snd hG c)
  | .and a b => snd_and (snd hG a) (snd hG b)
  | .or a b => snd_or (snd hG a) (snd hG b)
  | .not a => snd_not (snd hG a)
  | .ite c a b => snd_ite (snd hG c) (snd hG a) (snd hG b)
  | .nil => snd_nil
  | .cons a b => snd_cons (snd hG a) (snd hG b)
  | .tup a => snd_tup (snd hG a)
  | .lst a => snd_lst (snd hG a)
  | .idx a i => snd_idx (snd hG a) (snd hG i)
  | .cnt a b => snd_cnt (snd hG a) (snd hG b)
  | .slc a lo hi => snd_slc (snd hG a) (snd hG lo) (snd hG hi)
  | .np => snd_np
  | .call f a => snd_call (snd hG a)
  | .blt b a => snd_blt (snd hG a)
  | .lc vs g k it c e => snd_lc (snd hG it) (snd hG c) (snd hG e)
  | .gx _ _ _ _ it c e => snd_gx (snd hG it) (snd hG c) (snd hG e)
  | .newc a => snd_newc (snd hG a)
  | .scope a => snd_scope (snd hG a)
  | .lend _ a => snd_lend (snd hG a)
  | .told hs a => snd_told (snd hG a)
end
end Mini

namespace Mini
open PySem PySem.Spec PyProof.Rows L2
def ownA (σ : Sig) (σv : L2.St) (a : Addr) : Prop := ∃ (i : Nat) (ts : List D), σ[i]? = some (some (.own ts)) ∧ σv[i]? = some (some (.ref a))
def MM (M0 : Addr → Prop) (σ : Sig) (σv : L2.St) (a : Addr) : Prop := M0 a ∨ ownA σ σv a
structure Good (K : PySem.W.Frag) (Tb : List (Addr × Str)) (M0 : Addr → Prop) (C0 : List Addr) (H0 : Hp) (Gh : List (D × V)) (C : List Addr) (σ : Sig) (σv : L2.St) (H : Hp) (δ : Dl) : Prop where
  pre : Pre K Tb C (MM M0 σ σv) H δ
  sl : Sl K C (MM M0 σ σv) H σ σv
  le : Le C0 H0 C H
  own : ∀ a, ownA σ σv a → NT H0 a ∧ ¬ M0 a
  inj : ∀ (i j : Nat) (ts us : List D) (a : Addr), σ[i]? = some (some (.own ts)) → σv[i]? = some (some (.ref a)) → σ[j]? = some (some (.own us)) → σv[j]? = some (some (.ref a)) → i = j
  gh : ∀ g, g ∈ Gh → Rep K C (MM M0 σ σv) H g.1 g.2
section
variable {K : PySem.W.Frag} {Tb : List (Addr × Str)} {M0 : Addr → Prop} {C0 C C' : List Addr} {H0 H H' : Hp} {Gh : List (D × V)} {σ : Sig} {σv : L2.St} {δ δ' : Dl}
theorem Good.step (g : Good K Tb M0 C0 H0 Gh C σ σv H δ) (l : Le C H C' H') (p : Pre K Tb C' (MM M0 σ σv) H' δ') : Good K Tb M0 C0 H0 Gh C' σ σv H' δ' :=
  ⟨p, g.sl.le g.pre l, g.le.trans l, g.own, g.inj, fun x hx => Rep.step g.pre.cellH l inl_ _ _ (g.gh x hx)⟩
theorem Good.less {Gh' : List (D × V)} (g : Good K Tb M0 C0 H0 Gh C σ σv H δ) (h : ∀ x, x ∈ Gh' → x ∈ Gh) : Good K Tb M0 C0 H0 Gh' C σ σv H δ := ⟨g.pre, g.sl, g.le, g.own, g.inj, fun x hx => g.gh x (h x hx)⟩
theorem Good.more {Gh' : List (D × V)} (g : Good K Tb M0 C0 H0 Gh C σ σv H δ) (h : ∀ x, x ∈ Gh' → Rep K C (MM M0 σ σv) H x.1 x.2) : Good K Tb M0 C0 H0 (Gh' ++ Gh) C σ σv H δ :=
  ⟨g.pre, g.sl, g.le, g.own, g.inj, fun x hx => (List.mem_append.mp hx).elim (h x) (g.gh x)⟩
theorem Good.stored (g : Good K Tb M0 C0 H0 Gh C σ σv H δ) {σ' : Sig} {σv' : L2.St} (s : Sl K C (MM M0 σ σv) H σ' σv')
    (h : ∀ (i : Nat) (ts : List D), σ'[i]? = some (some (.own ts)) → σ[i]? = some (some (.own ts)) ∧ σv'[i]? = σv[i]?) : Good K Tb M0 C0 H0 Gh C σ' σv' H δ := by
  have ow : ∀ a, ownA σ' σv' a → ownA σ σv a := fun a ⟨i, ts, e1, e2⟩ => by
    obtain ⟨h1, h2⟩ := h i ts e1
    exact ⟨i, ts, h1, by rw [← h2]; exact e2⟩
  have mm : ∀ a, MM M0 σ' σv' a → MM M0 σ σv a := fun a z => z.elim .inl fun z => .inr (ow a z)
  refine ⟨g.pre.sub mm, s.step g.pre.cellH (Le.refl C H) fun a z => .inl (mm a z), g.le, fun a z => g.own a (ow a z), fun i j ts us a e1 e2 e3 e4 => ?_, fun x hx => Rep.sub mm _ _ (g.gh x hx)⟩
  obtain ⟨h1, h2⟩ := h i ts e1
  obtain ⟨h3, h4⟩ := h j us e3
  rw [h2] at e2
  rw [h4] at e4
  exact g.inj i j ts us a h1 e2 h3 e4
theorem setMany_own : ∀ {is : List Nat} {ds : List D} {σ σ' : Sig}, setMany is ds σ = some σ' → ∀ (i : Nat) (ts : List D), σ'[i]? = some (some (.own ts)) → σ[i]? = some (some (.own ts)) ∧ i ∉ is
  | [], [], σ, σ', e, i, ts, h => by cases e; exact ⟨h, by simp⟩
  | [], d :: ds, σ, σ', e, i, ts, h => by cases e
  | j :: is, [], σ, σ', e, i, ts, h => by cases e
  | j :: is, d :: ds, σ, σ', e, i, ts, h => by
    unfold setMany at e
    split at e
    · cases e
    · rename_i hd
      obtain ⟨h1, h2⟩ := setMany_own e i ts h
      by_cases hj : j = i
      · subst hj
        by_cases hl : j < σ.length
        · rw [List.getElem?_set_self hl] at h1
          cases h1
          exact absurd rfl hd
        · rw [List.getElem?_eq_none (by rw [List.length_set]; omega)] at h1; cases h1
      · rw [List.getElem?_set_ne hj] at h1
        exact ⟨h1, by simp only [List.mem_cons, not_or]; exact ⟨Ne.symm hj, h2⟩⟩
theorem set_own {i : Nat} {d : D} (hd : isOwn d = false) (j : Nat) (ts : List D) (h : (σ.set i (some d))[j]? = some (some (.own ts))) : σ[j]? = some (some (.own ts)) ∧ j ≠ i := by
  by_cases hj : i = j
  · subst hj
    by_cases hl : i < σ.length
    · rw [List.getElem?_set_self hl] at h
      cases h
      cases hd
    · rw [List.getElem?_eq_none (by rw [List.length_set]; omega)] at h; cases h
  · rw [List.getElem?_set_ne hj] at h
    exact ⟨h, Ne.symm hj⟩
theorem setG_own {g : G} {d : D} {σ' : Sig} (e : setG g d σ = some σ') (i : Nat) (ts : List D) (h : σ'[i]? = some (some (.own ts))) : σ[i]? = some (some (.own ts)) ∧ i ∉ gSlots g := by
  unfold setG at e
  split at e
  · split at e
    · cases e
    · rename_i hd
      cases e
      obtain ⟨h1, h2⟩ := set_own (by simpa using hd) i ts h
      exact ⟨h1, fun z => h2 (List.mem_singleton.mp z)⟩
  · exact setMany_own e i ts h
  · exact setMany_own e i ts h
  · cases e
theorem Good.target (g : Good K Tb M0 C0 H0 Gh C σ σv H δ) {t : G} {d : D} {v : V} {σ' : Sig} {Q : L2.St → Hp → Prop} (e : setG t d σ = some σ') (r : RepS K C (MM M0 σ σv) H d v)
    (q : ∀ σv', Good K Tb M0 C0 H0 Gh C σ' σv' H δ → Q σv' H) : gK K t v σv H Q :=
  setG_ok e r g.sl fun σv' s off => q σv' (g.stored s fun i ts h => by
    obtain ⟨h1, h2⟩ := setG_own e i ts h
    exact ⟨h1, off.2 i h2⟩)
theorem Good.take (g : Good K Tb M0 C0 H0 Gh C σ σv H δ) (l : Le C H C' H') {ts : List D} {v : V} {i : Nat} (r : Rep K C' (MM M0 σ σv) H' (.lst ts) v) (f : Frs K Tb (MM M0 σ σv) H C' H' δ' (.lst ts) v) :
    Good K Tb M0 C0 H0 Gh C' (σ.set i (some (.own ts))) (σv.set i (some v)) H' δ' := by
  obtain ⟨a, vs, e1, nt, nc, ha, pf, rf⟩ := f ts rfl
  subst e1
  obtain ⟨b, ws, e2, nm, _, _, _⟩ := rep_lst r
  cases e2
  have ow : ∀ x, ownA (σ.set i (some (.own ts))) (σv.set i (some (.ref a))) x → ownA σ σv x ∨ x = a := fun x ⟨j, us, h1, h2⟩ => by
    by_cases hj : i = j
    · subst hj
      by_cases hl : i < σv.length
      · rw [List.getElem?_set_self hl] at h2; cases h2; exact .inr rfl
      · rw [List.getElem?_eq_none (by rw [List.length_set]; omega)] at h2; cases h2
    · rw [List.getElem?_set_ne hj] at h1 h2
      exact .inl ⟨j, us, h1, h2⟩
  have mm : ∀ x, MM M0 (σ.set i (some (.own ts))) (σv.set i (some (.ref a))) x → MM M0 σ σv x ∨ x = a := fun x z => z.elim (fun z => .inl (.inl z)) fun z => (ow x z).elim (fun z => .inl (.inr z)) .inr
  have hm : ∀ x, MM M0 (σ.set i (some (.own ts))) (σv.set i (some (.ref a))) x → MM M0 σ σv x ∨ NT H x := fun x z => (mm x z).elim .inl fun z => .inr (by rw [z]; exact nt)
  have nt0 : NT H0 a := nt.back g.le.ext fun z => nc (l.mem (g.le.mem z))
  have old : ∀ x, ownA σ σv x → x ≠ a := fun x z e => by
    obtain ⟨xs, q⟩ := g.pre.mh x (.inr z)
    rw [e] at q
    exact nt.not q (fun ps z => by cases z)
  refine ⟨pf.sub mm, (g.sl.step g.pre.cellH l hm).set i ⟨a, vs, rfl, nc, ha, RepL.sub mm _ _ rf⟩, g.le.trans l, fun x z => ?_, fun j k us ws x h1 h2 h3 h4 => ?_, fun x hx => Rep.step g.pre.cellH l hm _ _ (g.gh x hx)⟩
  · rcases ow x z with z | z
    · exact g.own x z
    · rw [z]; exact ⟨nt0, fun y => nm (.inl y)⟩
  · by_cases hj : i = j
    · by_cases hk : i = k
      · omega
      · subst hj
        rw [List.getElem?_set_ne hk] at h3 h4
        have hl : i < σv.length := by
          have := (List.getElem?_eq_some_iff.mp h2).1
          rwa [List.length_set] at this
        rw [List.getElem?_set_self hl] at h2
        cases h2
        exact absurd rfl (old a ⟨k, ws, h3, h4⟩)
    · rw [List.getElem?_set_ne hj] at h1 h2
      by_cases hk : i = k
      · subst hk
        have hl : i < σv.length := by
          have := (List.getElem?_eq_some_iff.mp h4).1
          rwa [List.length_set] at this
        rw [List.getElem?_set_self hl] at h4
        cases h4
        exact absurd rfl (old a ⟨j, us, h1, h2⟩)
      · rw [List.getElem?_set_ne hk] at h3 h4
        exact g.inj j k us ws x h1 h2 h3 h4
theorem Good.write (g : Good K Tb M0 C0 H0 Gh C σ σv H δ) {i : Nat} {ts us : List D} {a : Addr} {ws : List V} (e : σ[i]? = some (some (.own ts))) (e' : σv[i]? = some (some (.ref a)))
    (r : RepL K C (MM M0 σ σv) H us ws) : Good K Tb M0 C0 H0 Gh C (σ.set i (some (.own us))) σv (upd H a (.lst ws)) δ := by
  have oa : ownA σ σv a := ⟨i, ts, e, e'⟩
  obtain ⟨vs0, hv, ⟨b, vs, eb, nc, hb, rb⟩⟩ := g.sl.at_ i _ e
  rw [e'] at hv; cases hv; cases eb
  have wr : Wr H (upd H a (.lst ws)) a := ⟨⟨vs, hb⟩, ⟨_, upd_same⟩, fun x o n h => by rw [upd_ne n]; exact h⟩
  have ow : ∀ x, ownA (σ.set i (some (.own us))) σv x ↔ ownA σ σv x := fun x => by
    constructor
    · rintro ⟨j, zs, h1, h2⟩
      by_cases hj : i = j
      · subst hj; exact ⟨i, ts, e, h2⟩
      · rw [List.getElem?_set_ne hj] at h1; exact ⟨j, zs, h1, h2⟩
    · rintro ⟨j, zs, h1, h2⟩
      by_cases hj : i = j
      · subst hj; exact ⟨i, us, List.getElem?_set_self (List.getElem?_eq_some_iff.mp e).1, h2⟩
      · exact ⟨j, zs, by rw [List.getElem?_set_ne hj]; exact h1, h2⟩
  have mm : MM M0 (σ.set i (some (.own us))) σv = MM M0 σ σv := by
    funext x
    exact propext ⟨fun z => z.elim .inl fun z => .inr ((ow x).mp z), fun z => z.elim .inl fun z => .inr ((ow x).mpr z)⟩
  have ma : MM M0 σ σv a := .inr oa
  have cn : ∀ x, x ∈ C → x ≠ a := fun x hx z => nc (by rw [← z]; exact hx)
  have pre' : Pre K Tb C (MM M0 σ σv) (upd H a (.lst ws)) δ := by
    refine ⟨wr.tabs g.pre.tabs, g.pre.nd, g.pre.len, g.pre.cm, wr.mh g.pre.mh, fun k zs ek => ?_⟩
    obtain ⟨x, rs, h1, h2, h3⟩ := g.pre.cells k zs ek
    exact ⟨x, rs, h1, wr.oth x _ (cn x (List.mem_of_getElem? h1)) h2, RepL.wr (.inl ma) wr _ _ h3⟩
  refine ⟨by rw [mm]; exact pre', ?_, ?_, fun x z => g.own x ((ow x).mp z), fun j k ys zs x h1 h2 h3 h4 => ?_, fun x hx => by rw [mm]; exact Rep.wr (.inl ma) wr _ _ (g.gh x hx)⟩
  · rw [mm]
    refine ⟨by rw [List.length_set]; exact g.sl.len, fun j d h => ?_⟩
    by_cases hj : i = j
    · subst hj
      rw [List.getElem?_set_self (List.getElem?_eq_some_iff.mp e).1] at h
      cases h
      exact ⟨.ref a, e', a, ws, rfl, nc, upd_same, RepL.wr (.inl ma) wr _ _ r⟩
    · rw [List.getElem?_set_ne hj] at h
      obtain ⟨v, h1, h2⟩ := g.sl.at_ j d h
      refine ⟨v, h1, ?_⟩
      cases d
      case own zs =>
        obtain ⟨x, rs, ex, nx, hx, rx⟩ := h2
        subst ex
        exact ⟨x, rs, rfl, nx, wr.oth x _ (fun z => hj (by rw [z] at h1; exact g.inj i j ts zs a e e' h h1)) hx, RepL.wr (.inl ma) wr _ _ rx⟩
      all_goals exact Rep.wr (.inl ma) wr _ _ h2
  · refine ⟨g.le.pre, g.le.new, fun x o h n hn => ?_⟩
    have := g.le.ext x o h n hn
    rw [upd_ne]
    · exact this
    · intro z
      rw [z] at h
      exact (g.own a oa).1.not h hn
  · have old : ∀ (j : Nat) (ys : List D), (σ.set i (some (.own us)))[j]? = some (some (.own ys)) → ∃ ys', σ[j]? = some (some (.own ys')) := fun j ys h => by
      by_cases hj : i = j
      · subst hj; exact ⟨ts, e⟩
      · rw [List.getElem?_set_ne hj] at h; exact ⟨ys, h⟩
    obtain ⟨y1, q1⟩ := old j ys h1
    obtain ⟨y2, q2⟩ := old k zs h3
    exact g.inj j k y1 y2 x q1 h2 q2 h4
theorem Good.writeCell (g : Good K Tb M0 C0 H0 Gh C σ σv H δ) {k : Nat} {a : Addr} {us : List D} {ws : List V} (e : C[k]? = some a) (r : RepL K C (MM M0 σ σv) H us ws) : Good K Tb M0 C0 H0 Gh C σ σv (upd H a (.lst ws)) (δ.set k us) := by
  have ac : a ∈ C := List.mem_of_getElem? e
  obtain ⟨vs, hv⟩ := g.pre.cellH a ac
  have wr : Wr H (upd H a (.lst ws)) a := ⟨⟨vs, hv⟩, ⟨_, upd_same⟩, fun x o n h => by rw [upd_ne n]; exact h⟩
  have kl : k < δ.length := by rw [← g.pre.len]; exact (List.getElem?_eq_some_iff.mp e).1
  refine ⟨⟨wr.tabs g.pre.tabs, g.pre.nd, by rw [List.length_set]; exact g.pre.len, g.pre.cm, wr.mh g.pre.mh, fun j zs ej => ?_⟩, ⟨g.sl.len, fun j d h => ?_⟩, ⟨g.le.pre, g.le.new, fun x o h n hn => ?_⟩, g.own, g.inj, fun x hx => Rep.wr (.inr ac) wr _ _ (g.gh x hx)⟩
  · by_cases hj : k = j
    · subst hj
      rw [List.getElem?_set_self kl] at ej
      cases ej
      exact ⟨a, ws, e, upd_same, RepL.wr (.inr ac) wr _ _ r⟩
    · rw [List.getElem?_set_ne hj] at ej
      obtain ⟨x, rs, h1, h2, h3⟩ := g.pre.cells j zs ej
      refine ⟨x, rs, h1, wr.oth x _ (fun z => hj ?_) h2, RepL.wr (.inr ac) wr _ _ h3⟩
      rw [z] at h1
      obtain ⟨l1, q1⟩ := List.getElem?_eq_some_iff.mp e
      obtain ⟨l2, q2⟩ := List.getElem?_eq_some_iff.mp h1
      exact (List.getElem_inj g.pre.nd).mp (q1.trans q2.symm)
  · obtain ⟨v, h1, h2⟩ := g.sl.at_ j d h
    refine ⟨v, h1, ?_⟩
    cases d
    case own zs =>
      obtain ⟨x, rs, ex, nx, hx, rx⟩ := h2
      exact ⟨x, rs, ex, nx, wr.oth x _ (fun z => nx (by rw [z]; exact ac)) hx, RepL.wr (.inr ac) wr _ _ rx⟩
    all_goals exact Rep.wr (.inr ac) wr _ _ h2
  · have := g.le.ext x o h n hn
    rw [upd_ne]
    · exact this
    · intro z
      rw [z] at h n
      exact (g.le.new a ac n).not h hn
theorem Good.freeze (g : Good K Tb M0 C0 H0 Gh C σ σv H δ) {i : Nat} {ts : List D} (e : σ[i]? = some (some (.own ts))) : Good K Tb M0 C0 H0 Gh C (σ.set i (some (.lst ts))) σv H δ := by
  obtain ⟨v, ev, ⟨a, vs, ea, nc, ha, ra⟩⟩ := g.sl.at_ i _ e
  subst ea
  have ow : ∀ x, ownA (σ.set i (some (.lst ts))) σv x → ownA σ σv x ∧ x ≠ a := fun x ⟨j, zs, h1, h2⟩ => by
    obtain ⟨h3, h4⟩ := set_own (d := .lst ts) rfl j zs h1
    refine ⟨⟨j, zs, h3, h2⟩, fun z => h4 ?_⟩
    rw [z] at h2
    exact g.inj j i zs ts a h3 h2 e ev
  have mm : ∀ x, MM M0 (σ.set i (some (.lst ts))) σv x → MM M0 σ σv x := fun x z => z.elim .inl fun z => .inr (ow x z).1
  have na : ¬ MM M0 (σ.set i (some (.lst ts))) σv a := fun z => z.elim (g.own a ⟨i, ts, e, ev⟩).2 fun z => (ow a z).2 rfl
  refine ⟨g.pre.sub mm, ⟨by rw [List.length_set]; exact g.sl.len, fun j d h => ?_⟩, g.le, fun x z => g.own x (ow x z).1, fun j k ys zs x h1 h2 h3 h4 => ?_, fun x hx => Rep.sub mm _ _ (g.gh x hx)⟩
  · by_cases hj : i = j
    · subst hj
      rw [List.getElem?_set_self (List.getElem?_eq_some_iff.mp e).1] at h
      cases h
      refine ⟨.ref a, ev, ?_⟩
      show Rep K _ _ _ _ _
      unfold Rep
      exact ⟨a, vs, rfl, na, nc, ha, RepL.sub mm _ _ ra⟩
    · rw [List.getElem?_set_ne hj] at h
      obtain ⟨v, h1, h2⟩ := g.sl.at_ j d h
      exact ⟨v, h1, h2.step g.pre.cellH (Le.refl C H) fun a z => .inl (mm a z)⟩
  · exact g.inj j k ys zs x (set_own (d := .lst ts) rfl j ys h1).1 h2 (set_own (d := .lst ts) rfl k zs h3).1 h4
end
end Mini

namespace Mini
open PySem PySem.Spec PyProof.Rows L2
def setAll : L2.St → List Nat → List V → L2.St
  | σ, i :: is, v :: vs => setAll (σ.set i (some v)) is vs
  | σ, _, _ => σ
def tMono (ta : TA) : TA := fun σ H Q => ∃ Q0, ta σ H Q0 ∧ ∀ vs H1, Q0 vs H1 → Q vs H1
theorem pa_mono {X : Cx} {es : List Expr} {ta : TA} (h : PA X es ta) : PA X es (tMono ta) := ⟨fun pos pins s σ H Q I ⟨Q0, h0, hm⟩ => thn (h.run pos pins s σ H _ I h0) fun us s1 ⟨xs, H1, I1, r, q⟩ => ⟨xs, H1, I1, r, hm _ _ q⟩⟩
theorem setAll_names : ∀ (is : List Nat) (vs : List V) (σ : L2.St) (H : Hp) (Q : L2.St → Hp → Prop), vs.length = is.length → Q (setAll σ is vs) H → gNames is vs σ H Q
  | [], [], σ, H, Q, _, q => ⟨rfl, q⟩
  | [], _ :: _, _, _, _, e, _ => by cases e
  | _ :: _, [], _, _, _, e, _ => by cases e
  | i :: is, v :: vs, σ, H, Q, e, q => ⟨v, vs, rfl, setAll_names is vs _ H Q (by simpa using e) q⟩
def tParL (is : List Nat) (ta : TA) : TS := fun D σ H => ta σ H fun vs H1 => vs.length = is.length ∧ D.nx (setAll σ is vs) H1
section
variable {K : PySem.W.Frag} (P : Par) (Er : Errs K P.X) (Tb : List (Addr × Str)) (Gv : Nat → V) (W : WX)
def rdS : S → TS
  | .skip => tNext
  | .pass => tNext
  | .seq a b => tSeq (rdS a) (rdS b)
  | .expr e => tDrop (rd P Er Tb Gv e W).v
  | .asg g e => tAsg (rd P Er Tb Gv e W).v (gK K g)
  | .asgO i e => tAsg (rd P Er Tb Gv e W).v (gName i)
  | .par is a => tParL (is.map (·.1)) (rd P Er Tb Gv a W).a
  | .asgT is a => tAsg (tTup (tMono (rd P Er Tb Gv a W).a)) (gK K (.tup (is.map (·.1))))
  | .setx o ix e => tAsg (rd P Er Tb Gv e W).v (gSub (rd P Er Tb Gv o W).v (rd P Er Tb Gv ix W).v rSetL)
  | .aug i o e => tAug i (rd P Er Tb Gv e W).v (rAug o)
  | .app i e => tDrop (tBM K "list" rAppend (tVar i) (tCons (rd P Er Tb Gv e W).v tNil))
  | .ext i e => tDrop (tBM K "list" rExtend (tVar i) (tCons (rd P Er Tb Gv e W).v tNil))
  | .pop i => tDrop (tBM0 K "list" rPop (tVar i))
  | .ite c a b => tIfS (rd P Er Tb Gv c W).t (rdS a) (rdS b)
  | .whl c b => tWhile (rd P Er Tb Gv c W).t (rdS b)
  | .for g k it b => tFor (rI (K := K) k (rd P Er Tb Gv it W).a) (gK K g) (rdS b)
  | .ret e => tRet (rd P Er Tb Gv e W).v
  | .retN => tRetN
  | .rais c => fun _ σ H => W (Er.xv c) none σ H
  | .raisP c e => fun _ σ H => (rd P Er Tb Gv e W).v σ H fun v H1 => ∀ d, H1 d = none → W (Er.xv c) (some d) σ (upd H1 d (.xd [(Er.xf c, v)]))
  | .brk => tBreak
  | .cont => tCont
  | .frz _ s => rdS s
termination_by structural s => s
end
def OPost {K : PySem.W.Frag} {X : List Str} (Er : Errs K X) (Tb : List (Addr × Str)) (M0 : Addr → Prop) (C0 : List Addr) (H0 : Hp) (Gh : List (D × V)) (W : WX) (D : Ends) : O → Prop
  | .nx σ δ => ∀ C σv H, Good K Tb M0 C0 H0 Gh C σ σv H δ → D.nx σv H
  | .bk σ δ => ∀ C σv H, Good K Tb M0 C0 H0 Gh C σ σv H δ → D.bk σv H
  | .ct σ δ => ∀ C σv H, Good K Tb M0 C0 H0 Gh C σ σv H δ → D.ct σv H
  | .rt d δ => isOwn d = false ∧ ∀ C H v, Le C0 H0 C H → Pre K Tb C M0 H δ → Rep K C M0 H d v → D.rt v H
  | .ex c p σ δ => ∀ C σv H cls d, Good K Tb M0 C0 H0 Gh C σ σv H δ → XRel Er C (MM M0 σ σv) H c p cls d → W cls d σv H
  | .bad => False
section
variable {K : PySem.W.Frag} {P : Par} {Er : Errs K P.X} {Tb : List (Addr × Str)} {Gv : Nat → V} {M0 : Addr → Prop} {C0 : List Addr} {H0 : Hp}
variable {Gh : List (D × V)} {C C' : List Addr} {σ : Sig} {σv : L2.St} {H H' : Hp} {δ δ' : Dl} {W : WX} {Dn : Ends}
theorem MM.sub0 : ∀ a, M0 a → MM M0 σ σv a := fun a z => .inl z
theorem OPost.then {α : Type} {r : R α} {f : α → Dl → O} (g : Good K Tb M0 C0 H0 Gh C σ σv H δ) (q : OPost Er Tb M0 C0 H0 Gh W Dn (R.then r σ f)) {Qok : α → Dl → List Addr → Hp → Prop}
    (h : ∀ a δ' C' H', Le C H C' H' → Good K Tb M0 C0 H0 Gh C' σ σv H' δ' → OPost Er Tb M0 C0 H0 Gh W Dn (f a δ') → Qok a δ' C' H') : RPost Er Tb C (MM M0 σ σv) H r Qok (wx W σv) := by
  cases r with
  | ok a δ' => exact fun C' H' l p => h a δ' C' H' l (g.step l p) q
  | ex c pl δ' => exact fun C' H' cls d l p x => q C' σv H' cls d (g.step l p) x
  | bad => exact q
variable (sn : ∀ e, Snd Er Tb Gv e)
def SndS (n : Nat) (s : S) : Prop := ∀ (M0 : Addr → Prop) (C0 : List Addr) (H0 : Hp) (Gh : List (D × V)) (C : List Addr) (σ : Sig) (σv : L2.St) (H : Hp) (δ : Dl) (W : WX) (Dn : Ends),
  Good K Tb M0 C0 H0 Gh C σ σv H δ → OPost Er Tb M0 C0 H0 Gh W Dn (evS P n s σ δ) → rdS P Er Tb Gv W s Dn σv H
theorem par_ok (sn : ∀ e, Snd Er Tb Gv e) {σ0 : Sig} {σv0 : L2.St} {Cs : List Addr} {Hs : Hp} {δs : Dl} {F : L2.St → Hp → Prop} (g0 : Good K Tb M0 C0 H0 Gh Cs σ0 σv0 Hs δs) : ∀ (is : List (Nat × Bool)) (a : E) (N : Addr → Prop) (C : List Addr) (σ : Sig) (σv : L2.St) (H : Hp) (δ : Dl),
    Pre K Tb C N H δ → Sl K C N H σ0 σv0 → Sl K C N H σ σv → Le Cs Hs C H → (∀ a, MM M0 σ0 σv0 a → N a) → (∀ a, ownA σ σv a → N a ∧ NT H0 a ∧ ¬ M0 a) →
    (∀ (i j : Nat) (ts us : List D) (a : Addr), σ[i]? = some (some (.own ts)) → σv[i]? = some (some (.ref a)) → σ[j]? = some (some (.own us)) → σv[j]? = some (some (.ref a)) → i = j) →
    (∀ g, g ∈ Gh → Rep K C N H g.1 g.2) →
    OPost Er Tb M0 C0 H0 Gh W { Dn with nx := F } (parGo P σ0 is a σ δ) → (rd P Er Tb Gv a W).a σv0 H fun vs H1 => vs.length = (is.map (·.1)).length ∧ F (setAll σv (is.map (·.1)) vs) H1
  | [], a, N, C, σ, σv, H, δ, p, s0, s, l, m0, ow, inj, gh, q => by
    cases a <;> first | exact q.elim | skip
    case nil =>
    refine ⟨rfl, q C σv H ?_⟩
    have mm : ∀ a, MM M0 σ σv a → N a := fun a z => z.elim (fun z => m0 a (.inl z)) fun z => (ow a z).1
    exact ⟨p.sub mm, s.step p.cellH (Le.refl C H) fun a z => .inl (mm a z), g0.le.trans l, fun a z => (ow a z).2, inj, fun x hx => Rep.sub mm _ _ (gh x hx)⟩
  | (i, w) :: is, a, N, C, σ, σv, H, δ, p, s0, s, l, m0, ow, inj, gh, q => by
    cases a <;> first | exact q.elim | skip
    case cons a b =>
    unfold parGo at q
    have q' := q
    clear q
    refine (sn a).v W C N σ0 δ σv0 H _ p s0 ?_
    cases ea : (evA' P a).v σ0 δ with
    | bad => rw [ea] at q'; exact q'.elim
    | ex c pl d =>
      rw [ea] at q'
      intro C' H' cls dd l' p' x
      have g' : Good K Tb M0 C0 H0 Gh C' σ0 σv0 H' d := g0.step (l.trans l') (p'.sub m0)
      refine q' C' σv0 H' cls dd g' ⟨x.1, x.2.1, ?_⟩
      cases pl with
      | nil => trivial
      | cons t r =>
        obtain ⟨z, v, e1, e2, e3⟩ := x.2.2
        exact ⟨z, v, e1, e2, Rep.sub m0 _ _ e3⟩
    | ok d δ1 =>
      rw [ea] at q'
      intro C' H' l' p' x r f
      have key : ∀ (d2 : D) (N' : Addr → Prop), Pre K Tb C' N' H' δ1 → (∀ a, N' a → N a ∨ NT H a) → (∀ a, N a → N' a) → RepS K C' N' H' d2 x →
          (∀ a, ownA (σ.set i (some d2)) (σv.set i (some x)) a → ownA σ σv a ∨ (N' a ∧ NT H a ∧ ¬ M0 a)) →
          (∀ (j k : Nat) (ts us : List D) (a : Addr), (σ.set i (some d2))[j]? = some (some (.own ts)) → (σv.set i (some x))[j]? = some (some (.ref a)) → (σ.set i (some d2))[k]? = some (some (.own us)) → (σv.set i (some x))[k]? = some (some (.ref a)) → j = k) →
          OPost Er Tb M0 C0 H0 Gh W { Dn with nx := F } (parGo P σ0 is b (σ.set i (some d2)) δ1) →
          (rd P Er Tb Gv b W).a σv0 H' fun vs H1 => (x :: vs).length = (((i, w) :: is).map (·.1)).length ∧ F (setAll σv (((i, w) :: is).map (·.1)) (x :: vs)) H1 := by
        intro d2 N' p2 hm hsub r2 ow2 inj2 q2
        have h := par_ok sn g0 is b N' C' (σ.set i (some d2)) (σv.set i (some x)) H' δ1 p2 (s0.step p.cellH l' hm) ((s.step p.cellH l' hm).set i r2) (l.trans l') (fun a z => hsub a (m0 a z)) (fun a z => by
          rcases ow2 a z with z | ⟨z1, z2, z3⟩
          · obtain ⟨y1, y2⟩ := ow a z
            exact ⟨hsub a y1, y2⟩
          · exact ⟨z1, z2.back ((g0.le.trans l).ext) (fun y => by
              have : a ∈ C := (g0.le.trans l).mem y
              obtain ⟨xs, hx⟩ := p.cellH a this
              exact z2.not hx (fun ps z => by cases z)), z3⟩) inj2 (fun y hy => Rep.step p.cellH l' hm _ _ (gh y hy)) q2
        have e : (fun vs H1 => (x :: vs).length = (((i, w) :: is).map (·.1)).length ∧ F (setAll σv (((i, w) :: is).map (·.1)) (x :: vs)) H1) = fun vs H1 => vs.length = (is.map (·.1)).length ∧ F (setAll (σv.set i (some x)) (is.map (·.1)) vs) H1 := by
          funext vs H1
          simp only [List.length_cons, List.map_cons, Nat.add_right_cancel_iff]
          rfl
        rw [e]
        exact h
      cases w with
      | false =>
        simp only [R.then] at q'
        split at q'
        · exact q'.elim
        · rename_i hn
          have hn : isOwn d = false := by simpa using hn
          refine key d N p' inl_ (fun a z => z) r (fun a ⟨j, ts, h1, h2⟩ => ?_) (fun j k ts us a h1 h2 h3 h4 => ?_) q'
          · obtain ⟨h3, h4⟩ := set_own hn j ts h1
            rw [List.getElem?_set_ne (Ne.symm h4)] at h2
            exact .inl ⟨j, ts, h3, h2⟩
          · obtain ⟨h5, h6⟩ := set_own hn j ts h1
            obtain ⟨h7, h8⟩ := set_own hn k us h3
            rw [List.getElem?_set_ne (Ne.symm h6)] at h2
            rw [List.getElem?_set_ne (Ne.symm h8)] at h4
            exact inj j k ts us a h5 h2 h7 h4
      | true =>
        cases d <;> first | exact q'.elim | skip
        case lst ts =>
        simp only [R.then] at q'
        split at q'
        · rename_i hf
          obtain ⟨ad, vs, e1, nt, nc, ha, pf, rf⟩ := f hf ts rfl
          subst e1
          obtain ⟨b2, ws, e2, nm, _, _, _⟩ := rep_lst (r.rep rfl)
          cases e2
          have old : ∀ a, N a → a ≠ ad := fun a z e => by
            obtain ⟨xs, hx⟩ := p.mh a z
            rw [e] at hx
            exact nt.not hx (fun ps z => by cases z)
          refine key (.own ts) (fun x => N x ∨ x = ad) pf (fun a z => z.elim .inl fun z => .inr (by rw [z]; exact nt)) (fun a z => .inl z) ⟨ad, vs, rfl, nc, ha, rf⟩ (fun a ⟨j, us, h1, h2⟩ => ?_) (fun j k us zs a h1 h2 h3 h4 => ?_) q'
          · by_cases hj : i = j
            · subst hj
              have hl : i < σv.length := by
                have := (List.getElem?_eq_some_iff.mp h2).1
                rwa [List.length_set] at this
              rw [List.getElem?_set_self hl] at h2
              cases h2
              exact .inr ⟨.inr rfl, nt, fun z => nm (m0 ad (.inl z))⟩
            · rw [List.getElem?_set_ne hj] at h1 h2
              exact .inl ⟨j, us, h1, h2⟩
          · by_cases hj : i = j
            · by_cases hk : i = k
              · omega
              · subst hj
                have hl : i < σv.length := by
                  have := (List.getElem?_eq_some_iff.mp h2).1
                  rwa [List.length_set] at this
                rw [List.getElem?_set_self hl] at h2
                cases h2
                rw [List.getElem?_set_ne hk] at h3 h4
                exact absurd rfl (old ad (ow ad ⟨k, zs, h3, h4⟩).1)
            · rw [List.getElem?_set_ne hj] at h1 h2
              by_cases hk : i = k
              · subst hk
                have hl : i < σv.length := by
                  have := (List.getElem?_eq_some_iff.mp h4).1
                  rwa [List.length_set] at this
                rw [List.getElem?_set_self hl] at h4
                cases h4
                exact absurd rfl (old ad (ow ad ⟨j, us, h1, h2⟩).1)
              · rw [List.getElem?_set_ne hk] at h3 h4
                exact inj j k us zs a h1 h2 h3 h4
        · exact q'.elim
theorem sndS_par (sn : ∀ e, Snd Er Tb Gv e) {n : Nat} {is : List (Nat × Bool)} {a : E} : SndS (Er := Er) (Tb := Tb) (Gv := Gv) n (.par is a) := fun M0 C0 H0 Gh C σ σv H δ W Dn g q => by
  have q' : OPost Er Tb M0 C0 H0 Gh W Dn (if decide ((is.map (·.1)).Nodup) then parGo P σ is a σ δ else .bad) := q
  split at q'
  · exact par_ok sn g is a _ C σ σv H δ g.pre g.sl g.sl (Le.refl C H) (fun a z => z) (fun a z => ⟨.inr z, g.own a z⟩) g.inj g.gh q'
  · exact q'.elim
theorem sndS_asgT (sn : ∀ e, Snd Er Tb Gv e) {n : Nat} {is : List (Nat × Bool)} {a : E} : SndS (Er := Er) (Tb := Tb) (Gv := Gv) n (.asgT is a) := fun M0 C0 H0 Gh C σ σv H δ W Dn g q => by
  have q' : OPost Er Tb M0 C0 H0 Gh W Dn (if decide ((is.map (·.1)).Nodup) && decide (is.length ≤ 1000) then parGo P σ is a σ δ else .bad) := q
  split at q'
  · rename_i hd
    rw [Bool.and_eq_true] at hd
    have hl : is.length ≤ 1000 := of_decide_eq_true hd.2
    have q2 : OPost Er Tb M0 C0 H0 Gh W { Dn with nx := fun σ' H1 => ∀ t vs, H1 t = none → Dn.nx σ' (upd H1 t (.tup vs)) } (parGo P σ is a σ δ) := by
      cases ho : parGo P σ is a σ δ with
      | nx σ' δ' =>
        rw [ho] at q'
        intro C' σv' H' g' t vs ht
        exact q' C' σv' _ (g'.step (le_of_all (upd_all ht)) (g'.pre.all (upd_all ht)))
      | rt d δ' => rw [ho] at q'; exact q'
      | bk σ' δ' => rw [ho] at q'; exact q'
      | ct σ' δ' => rw [ho] at q'; exact q'
      | ex c p σ' δ' => rw [ho] at q'; exact q'
      | bad => rw [ho] at q'; exact q'
    refine ⟨_, par_ok sn g is a _ C σ σv H δ g.pre g.sl g.sl (Le.refl C H) (fun a z => z) (fun a z => ⟨.inr z, g.own a z⟩) g.inj g.gh q2, fun vs H1 hv => ?_⟩
    obtain ⟨h1, h2⟩ := hv
    rw [List.length_map] at h1
    refine ⟨by rw [h1, ← line_eq]; unfold line; omega, fun t ht => .inl ⟨t, vs, rfl, .inl (.inl upd_same), by rw [List.length_map]; exact h1, setAll_names _ _ _ _ _ (by rw [List.length_map]; exact h1) (h2 t vs ht)⟩⟩
  · exact q'.elim
theorem sndS_skip {n : Nat} : SndS (Er := Er) (Tb := Tb) (Gv := Gv) n .skip := fun M0 C0 H0 Gh C σ σv H δ W Dn g q => q C σv H g
theorem sndS_pass {n : Nat} : SndS (Er := Er) (Tb := Tb) (Gv := Gv) n .pass := fun M0 C0 H0 Gh C σ σv H δ W Dn g q => q C σv H g
theorem sndS_seq {n : Nat} {a b : S} (ha : SndS (Er := Er) (Tb := Tb) (Gv := Gv) n a) (hb : SndS (Er := Er) (Tb := Tb) (Gv := Gv) n b) : SndS (Er := Er) (Tb := Tb) (Gv := Gv) n (.seq a b) := fun M0 C0 H0 Gh C σ σv H δ W Dn g q => by
  refine ha M0 C0 H0 Gh C σ σv H δ W { Dn with nx := rdS P Er Tb Gv W b Dn } g ?_
  have q' : OPost Er Tb M0 C0 H0 Gh W Dn ((evS P n a σ δ).next fun σ δ => evS P n b σ δ) := q
  cases e : evS P n a σ δ with
  | nx σ' δ' =>
    rw [e] at q'
    exact fun C' σv' H' g' => hb M0 C0 H0 Gh C' σ' σv' H' δ' W Dn g' q'
  | rt d δ' => rw [e] at q'; exact q'
  | bk σ' δ' => rw [e] at q'; exact q'
  | ct σ' δ' => rw [e] at q'; exact q'
  | ex c p σ' δ' => rw [e] at q'; exact q'
  | bad => rw [e] at q'; exact q'
theorem sndS_expr (sn : ∀ e, Snd Er Tb Gv e) {n : Nat} {e : E} : SndS (Er := Er) (Tb := Tb) (Gv := Gv) n (.expr e) := fun M0 C0 H0 Gh C σ σv H δ W Dn g q =>
  (sn e).v W C _ σ δ σv H _ g.pre g.sl (OPost.then g q fun a δ' C' H' l g' q' x r _ => q' C' σv H' g')
theorem sndS_asg (sn : ∀ e, Snd Er Tb Gv e) {n : Nat} {t : G} {e : E} : SndS (Er := Er) (Tb := Tb) (Gv := Gv) n (.asg t e) := fun M0 C0 H0 Gh C σ σv H δ W Dn g q => by
  refine (sn e).v W C _ σ δ σv H _ g.pre g.sl (OPost.then g q fun a δ' C' H' l g' q' x r _ => ?_)
  cases et : setG t a σ with
  | none => rw [et] at q'; exact q'.elim
  | some σ' =>
    rw [et] at q'
    exact g'.target et r fun σv' g2 => q' C' σv' H' g2
theorem sndS_asgO (sn : ∀ e, Snd Er Tb Gv e) {n : Nat} {i : Nat} {e : E} : SndS (Er := Er) (Tb := Tb) (Gv := Gv) n (.asgO i e) := fun M0 C0 H0 Gh C σ σv H δ W Dn g q => by
  refine (sn e).v W C _ σ δ σv H _ g.pre g.sl (OPost.then g q fun a δ' C' H' l g' q' x r f => ?_)
  cases a <;> first | exact q'.elim | skip
  case lst ts =>
  simp only at q'
  split at q'
  · rename_i hf
    exact q' C' _ H' (g.take l (r.rep rfl) (f hf))
  · exact q'.elim
theorem sndS_ite (sn : ∀ e, Snd Er Tb Gv e) {n : Nat} {c : E} {a b : S} (ha : SndS (Er := Er) (Tb := Tb) (Gv := Gv) n a) (hb : SndS (Er := Er) (Tb := Tb) (Gv := Gv) n b) : SndS (Er := Er) (Tb := Tb) (Gv := Gv) n (.ite c a b) := fun M0 C0 H0 Gh C σ σv H δ W Dn g q => by
  refine (sn c).t W C _ σ δ σv H _ g.pre g.sl (OPost.then g q fun k δ' C' H' l g' q' => ?_)
  cases k with
  | true => exact ha M0 C0 H0 Gh C' σ σv H' δ' W Dn g' q'
  | false => exact hb M0 C0 H0 Gh C' σ σv H' δ' W Dn g' q'
theorem sndS_ret (sn : ∀ e, Snd Er Tb Gv e) {n : Nat} {e : E} : SndS (Er := Er) (Tb := Tb) (Gv := Gv) n (.ret e) := fun M0 C0 H0 Gh C σ σv H δ W Dn g q => by
  cases hv : isVar e with
  | true =>
    cases e <;> first | cases hv | skip
    case refl i =>
    have q' : OPost Er Tb M0 C0 H0 Gh W Dn (R.then ((evA' P (.var i)).v σ δ) σ fun d δ => if isOwn d then (if isVar (.var i) then .rt (demote d) δ else .bad) else .rt d δ) := q
    cases e1 : (evA' P (.var i)).v σ δ with
    | bad => rw [e1] at q'; exact q'.elim
    | ex c p d =>
      exfalso
      have : (match σ[i]? with | some (some d) => R.ok d δ | _ => R.bad) = R.ex c p d := e1
      split at this <;> cases this
    | ok d δ' =>
      have : (match σ[i]? with | some (some d) => R.ok d δ | _ => R.bad) = R.ok d δ' := e1
      split at this
      · rename_i d' ed
        cases this
        rw [e1] at q'
        obtain ⟨v, h1, h2⟩ := g.sl.at_ i d ed
        refine ⟨v, h1, ?_⟩
        have p0 : Pre K Tb C M0 H δ := g.pre.sub MM.sub0
        cases ho : isOwn d with
        | false =>
          have q2 : OPost Er Tb M0 C0 H0 Gh W Dn (if isOwn d then (if isVar (.var i) then .rt (demote d) δ else .bad) else .rt d δ) := q'
          rw [ho] at q2
          exact q2.2 C H v g.le p0 (Rep.sub MM.sub0 _ _ (h2.rep ho))
        | true =>
          have q2 : OPost Er Tb M0 C0 H0 Gh W Dn (if isOwn d then (if isVar (.var i) then .rt (demote d) δ else .bad) else .rt d δ) := q'
          rw [ho] at q2
          cases d <;> first | cases ho | skip
          case refl ts =>
          obtain ⟨a, vs, ea, nc, ha, ra⟩ := h2
          refine q2.2 C H v g.le p0 ?_
          show Rep K _ _ _ (.lst ts) v
          unfold Rep
          exact ⟨a, vs, ea, (g.own a ⟨i, ts, ed, by rw [h1, ea]⟩).2, nc, ha, RepL.sub MM.sub0 _ _ ra⟩
      · cases this
  | false =>
    refine (sn e).v W C _ σ δ σv H _ g.pre g.sl (OPost.then g q fun d δ' C' H' l g' q' x r _ => ?_)
    cases ho : isOwn d with
    | true => rw [ho, hv] at q'; exact q'.elim
    | false =>
      rw [ho] at q'
      exact q'.2 C' H' x g'.le (g'.pre.sub MM.sub0) (Rep.sub MM.sub0 _ _ (r.rep ho))
theorem sndS_retN {n : Nat} : SndS (Er := Er) (Tb := Tb) (Gv := Gv) n .retN := fun M0 C0 H0 Gh C σ σv H δ W Dn g q => q.2 C H .non g.le (g.pre.sub MM.sub0) mk_non
theorem sndS_brk {n : Nat} : SndS (Er := Er) (Tb := Tb) (Gv := Gv) n .brk := fun M0 C0 H0 Gh C σ σv H δ W Dn g q => q C σv H g
theorem sndS_cont {n : Nat} : SndS (Er := Er) (Tb := Tb) (Gv := Gv) n .cont := fun M0 C0 H0 Gh C σ σv H δ W Dn g q => q C σv H g
theorem sndS_rais {n : Nat} {c : Str} : SndS (Er := Er) (Tb := Tb) (Gv := Gv) n (.rais c) := fun M0 C0 H0 Gh C σ σv H δ W Dn g q => by
  have q' : OPost Er Tb M0 C0 H0 Gh W Dn (if P.X.contains c then .ex c [] σ δ else .bad) := q
  split at q'
  · rename_i hc
    exact q' C σv H (Er.xv c) none g ⟨by simpa using hc, rfl, trivial⟩
  · exact q'.elim
theorem sndS_raisP (sn : ∀ e, Snd Er Tb Gv e) {n : Nat} {c : Str} {e : E} : SndS (Er := Er) (Tb := Tb) (Gv := Gv) n (.raisP c e) := fun M0 C0 H0 Gh C σ σv H δ W Dn g q => by
  refine (sn e).v W C _ σ δ σv H _ g.pre g.sl (OPost.then g q fun d δ' C' H' l g' q' x r _ => fun dd hd => ?_)
  split at q'
  · exact q'.elim
  · rename_i hn
    rw [Bool.or_eq_true, not_or, Bool.not_eq_true, Bool.not_eq_true, Bool.not_eq_false'] at hn
    have u := upd_all (o := .xd [(Er.xf c, x)]) hd
    have g2 := g'.step (le_of_all u) (g'.pre.all u)
    exact q' C' σv _ (Er.xv c) (some dd) g2 ⟨by simpa using hn.2, rfl, dd, x, rfl, upd_same, Rep.step g'.pre.cellH (le_of_all u) inl_ _ _ (r.rep hn.1)⟩
theorem sndS_frz {n : Nat} {i : Nat} {s : S} (hs : SndS (Er := Er) (Tb := Tb) (Gv := Gv) n s) : SndS (Er := Er) (Tb := Tb) (Gv := Gv) n (.frz i s) := fun M0 C0 H0 Gh C σ σv H δ W Dn g q => by
  have q' : OPost Er Tb M0 C0 H0 Gh W Dn (match ownAt σ i with | some ts => evS P n s (σ.set i (some (.lst ts))) δ | none => .bad) := q
  cases e : ownAt σ i with
  | none => rw [e] at q'; exact q'.elim
  | some ts =>
    rw [e] at q'
    unfold ownAt at e
    split at e
    · rename_i us eu
      cases e
      exact hs M0 C0 H0 Gh C _ σv H δ W Dn (g.freeze eu) q'
    · cases e
theorem sndS_whl (sn : ∀ e, Snd Er Tb Gv e) {n : Nat} {c : E} {b : S} (hb : SndS (Er := Er) (Tb := Tb) (Gv := Gv) n b) : SndS (Er := Er) (Tb := Tb) (Gv := Gv) n (.whl c b) := fun M0 C0 H0 Gh C σ σv H δ W Dn g q => by
  refine ⟨fun m σv H => ∃ C σ δ, Good K Tb M0 C0 H0 Gh C σ σv H δ ∧ OPost Er Tb M0 C0 H0 Gh W Dn (whlGo (evA' P c).t (evS P n b) m σ δ), ⟨n, C, σ, δ, g, q⟩, ?_⟩
  rintro m σv H ⟨C, σ, δ, g, q⟩
  cases m with
  | zero => exact q.elim
  | succ m =>
    have q' : OPost Er Tb M0 C0 H0 Gh W Dn (match (evA' P c).t σ δ with
      | .ok k δ => if k then (match evS P n b σ δ with
        | .nx σ δ => whlGo (evA' P c).t (evS P n b) m σ δ
        | .ct σ δ => whlGo (evA' P c).t (evS P n b) m σ δ
        | .bk σ δ => .nx σ δ
        | o => o) else .nx σ δ
      | .ex c p δ => .ex c p σ δ
      | .bad => .bad) := q
    refine (sn c).t W C _ σ δ σv H _ g.pre g.sl ?_
    cases ec : (evA' P c).t σ δ with
    | bad => rw [ec] at q'; exact q'
    | ex x p d => rw [ec] at q'; exact fun C' H' cls dd l p' x => q' C' σv H' cls dd (g.step l p') x
    | ok k δ1 =>
      rw [ec] at q'
      intro C' H' l p'
      have g' := g.step l p'
      cases k with
      | false => exact q' C' σv H' g'
      | true =>
        simp only [if_true] at q' ⊢
        refine ⟨fun σv H => ∃ C σ δ, Good K Tb M0 C0 H0 Gh C σ σv H δ ∧ OPost Er Tb M0 C0 H0 Gh W Dn (whlGo (evA' P c).t (evS P n b) m σ δ), fun σv' H' h => ⟨m, Nat.lt_succ_self m, h⟩, ?_⟩
        refine hb M0 C0 H0 Gh C' σ σv H' δ1 W _ g' ?_
        cases eb : evS P n b σ δ1 with
        | nx σ2 δ2 => rw [eb] at q'; exact fun C2 σv2 H2 g2 => ⟨C2, σ2, δ2, g2, q'⟩
        | ct σ2 δ2 => rw [eb] at q'; exact fun C2 σv2 H2 g2 => ⟨C2, σ2, δ2, g2, q'⟩
        | bk σ2 δ2 => rw [eb] at q'; exact q'
        | rt d δ2 => rw [eb] at q'; exact q'
        | ex x p σ2 δ2 => rw [eb] at q'; exact q'
        | bad => rw [eb] at q'; exact q'
theorem sndS_for (sn : ∀ e, Snd Er Tb Gv e) {n : Nat} {t : G} {k : IK} {it : E} {b : S} (hb : SndS (Er := Er) (Tb := Tb) (Gv := Gv) n b) : SndS (Er := Er) (Tb := Tb) (Gv := Gv) n (.for t k it b) := fun M0 C0 H0 Gh C σ σv H δ W Dn g q => by
  refine (sn it).a W C _ σ δ σv H _ g.pre g.sl (OPost.then g q fun ds δ' C1 H1 l g1 q1 vs r => ?_)
  cases ei : itemsD δ' k ds with
  | none => rw [ei] at q1; exact q1.elim
  | some xs =>
    rw [ei] at q1
    obtain ⟨Gs, J, gh, w, fin⟩ := items_ok (Tb := Tb) ei r
    refine fin _ ?_
    refine ⟨fun i m σv H => i ≤ xs.length ∧ m = xs.length - i ∧ ∃ C σ δ, Good K Tb M0 C0 H0 (Gs ++ Gh) C σ σv H δ ∧ OPost Er Tb M0 C0 H0 Gh W Dn (forGo t (evS P n b) (xs.drop i) σ δ),
      ⟨xs.length, Nat.zero_le _, by simp, C1, σ, δ', g1.more gh, by simpa using q1⟩, ?_⟩
    rintro i m σv H ⟨hi, rfl, C, σ, δ, g, q⟩
    have gl : ∀ {C σ σv H δ}, Good K Tb M0 C0 H0 (Gs ++ Gh) C σ σv H δ → Good K Tb M0 C0 H0 Gh C σ σv H δ := fun g => g.less fun x hx => List.mem_append_right _ hx
    have wk := w C _ H δ g.pre fun x hx => g.gh x (List.mem_append_left _ hx)
    by_cases hlt : i < xs.length
    · refine .inr ⟨wk.1 i hlt, fun σv' H' => i + 1 ≤ xs.length ∧ ∃ C σ δ, Good K Tb M0 C0 H0 (Gs ++ Gh) C σ σv' H' δ ∧ OPost Er Tb M0 C0 H0 Gh W Dn (forGo t (evS P n b) (xs.drop (i + 1)) σ δ),
        fun σ' H' h => ⟨xs.length - (i + 1), by omega, h.1, rfl, h.2⟩, fun x H' y => ?_⟩
      obtain ⟨d, ed, l2, p2, rd_⟩ := wk.2.2 i x H' hlt y
      have edr : xs.drop i = d :: xs.drop (i + 1) := by
        obtain ⟨h1, h2⟩ := List.getElem?_eq_some_iff.mp ed
        rw [← h2]; exact List.drop_eq_getElem_cons hlt
      rw [edr] at q
      have g2 := g.step l2 p2
      have q' : OPost Er Tb M0 C0 H0 Gh W Dn (match setG t d σ with
        | none => .bad
        | some σ => match evS P n b σ δ with
          | .nx σ δ => forGo t (evS P n b) (xs.drop (i + 1)) σ δ
          | .ct σ δ => forGo t (evS P n b) (xs.drop (i + 1)) σ δ
          | .bk σ δ => .nx σ δ
          | o => o) := q
      cases et : setG t d σ with
      | none => rw [et] at q'; exact q'.elim
      | some σ2 =>
        rw [et] at q'
        simp only at q'
        refine g2.target et rd_.repS fun σv2 g3 => ?_
        refine hb M0 C0 H0 (Gs ++ Gh) C σ2 σv2 H' δ W _ g3 ?_
        cases eb : evS P n b σ2 δ with
        | nx σ3 δ3 => rw [eb] at q'; exact fun C3 σv3 H3 g4 => ⟨hlt, C3, σ3, δ3, g4, q'⟩
        | ct σ3 δ3 => rw [eb] at q'; exact fun C3 σv3 H3 g4 => ⟨hlt, C3, σ3, δ3, g4, q'⟩
        | bk σ3 δ3 => rw [eb] at q'; exact fun C3 σv3 H3 g4 => q' C3 σv3 H3 (gl g4)
        | rt d δ3 => rw [eb] at q'; exact q'
        | ex x p σ3 δ3 => rw [eb] at q'; exact fun C3 σv3 H3 cls dd g4 x => q' C3 σv3 H3 cls dd (gl g4) x
        | bad => rw [eb] at q'; exact q'
    · have e : i = xs.length := by omega
      subst e
      rw [List.drop_length] at q
      exact .inl ⟨wk.2.1, q C σv H (gl g)⟩
theorem sndS_aug (sn : ∀ e, Snd Er Tb Gv e) {n : Nat} {i : Nat} {o : Operator} {e : E} : SndS (Er := Er) (Tb := Tb) (Gv := Gv) n (.aug i o e) := fun M0 C0 H0 Gh C σ σv H δ W Dn g q => by
  have q' : OPost Er Tb M0 C0 H0 Gh W Dn (R.then (match σ[i]? with | some (some d) => R.ok d δ | _ => R.bad) σ fun x δ => R.then ((evA' P e).v σ δ) σ fun y δ => match augD o x y with
    | some z => .nx (σ.set i (some z)) δ
    | none => .bad) := q
  cases es : σ[i]? with
  | none => rw [es] at q'; exact q'.elim
  | some od =>
    cases od with
    | none => rw [es] at q'; exact q'.elim
    | some d =>
      rw [es] at q'
      obtain ⟨v, h1, h2⟩ := g.sl.at_ i d es
      have q2 : OPost Er Tb M0 C0 H0 Gh W Dn (R.then ((evA' P e).v σ δ) σ fun y δ => match augD o d y with
        | some z => .nx (σ.set i (some z)) δ
        | none => .bad) := q'
      refine ⟨v, h1, (sn e).v W C _ σ δ σv H _ g.pre g.sl (OPost.then g q2 fun y δ' C' H' l g' q3 x r _ => ?_)⟩
      cases ea : augD o d y with
      | none => rw [ea] at q3; exact q3.elim
      | some z =>
        rw [ea] at q3
        refine aug_ok ea (h2.step g.pre.cellH l inl_) r fun w rw_ => q3 C' _ H' (g'.stored (g'.sl.set i rw_.repS) fun j ts h => ?_)
        obtain ⟨h3, h4⟩ := set_own (own_no rw_) j ts h
        exact ⟨h3, List.getElem?_set_ne (Ne.symm h4)⟩
theorem ownAt_of {i : Nat} {ts : List D} (e : ownAt σ i = some ts) : σ[i]? = some (some (.own ts)) := by
  unfold ownAt at e
  split at e
  · rename_i us eu
    cases e
    exact eu
  · cases e
theorem Good.lst (g : Good K Tb M0 C0 H0 Gh C σ σv H δ) {i : Nat} {ts : List D} (e : σ[i]? = some (some (.own ts))) : ∃ a vs, σv[i]? = some (some (.ref a)) ∧ H a = some (.lst vs) ∧ RepL K C (MM M0 σ σv) H ts vs := by
  obtain ⟨v, h1, ⟨a, vs, ea, nc, ha, ra⟩⟩ := g.sl.at_ i _ e
  subst ea
  exact ⟨a, vs, h1, ha, ra⟩
theorem sndS_app (sn : ∀ e, Snd Er Tb Gv e) {n : Nat} {i : Nat} {e : E} : SndS (Er := Er) (Tb := Tb) (Gv := Gv) n (.app i e) := fun M0 C0 H0 Gh C σ σv H δ W Dn g q => by
  have q' : OPost Er Tb M0 C0 H0 Gh W Dn (match ownAt σ i with
    | some ts => R.then ((evA' P e).v σ δ) σ fun d δ => if isOwn d || decide (1000000 < ts.length) then .bad else .nx (σ.set i (some (.own (ts ++ [d])))) δ
    | none => .bad) := q
  cases eo : ownAt σ i with
  | none => rw [eo] at q'; exact q'.elim
  | some ts =>
    rw [eo] at q'
    have es := ownAt_of eo
    obtain ⟨a, vs, h1, h2, h3⟩ := g.lst es
    refine ⟨.ref a, h1, .inl ⟨rfl, vs, SqL.of h2⟩, (sn e).v W C _ σ δ σv H _ g.pre g.sl (OPost.then g q' fun d δ' C' H' l g' q2 x r _ => ?_)⟩
    split at q2
    · exact q2.elim
    · rename_i hn
      rw [Bool.or_eq_true, not_or, Bool.not_eq_true, decide_eq_true_eq] at hn
      obtain ⟨a', vs', h1', h2', h3'⟩ := g'.lst es
      rw [h1] at h1'; cases h1'
      refine ⟨a, vs', x, rfl, rfl, h2', by rw [h3'.length, sizeLine_eq]; omega, ?_⟩
      exact q2 C' σv _ (g'.write es h1 (h3'.append (.one (r.rep hn.1))))
theorem sndS_ext (sn : ∀ e, Snd Er Tb Gv e) {n : Nat} {i : Nat} {e : E} : SndS (Er := Er) (Tb := Tb) (Gv := Gv) n (.ext i e) := fun M0 C0 H0 Gh C σ σv H δ W Dn g q => by
  have q' : OPost Er Tb M0 C0 H0 Gh W Dn (match ownAt σ i with
    | some ts => R.then ((evA' P e).v σ δ) σ fun d δ => match d with
      | .lst us => if decide (1000000 < ts.length + us.length) then .bad else .nx (σ.set i (some (.own (ts ++ us)))) δ
      | _ => .bad
    | none => .bad) := q
  cases eo : ownAt σ i with
  | none => rw [eo] at q'; exact q'.elim
  | some ts =>
    rw [eo] at q'
    have es := ownAt_of eo
    obtain ⟨a, vs, h1, h2, h3⟩ := g.lst es
    refine ⟨.ref a, h1, .inl ⟨rfl, vs, SqL.of h2⟩, (sn e).v W C _ σ δ σv H _ g.pre g.sl (OPost.then g q' fun d δ' C' H' l g' q2 x r _ => ?_)⟩
    cases d <;> first | exact q2.elim | skip
    case lst us =>
    simp only at q2
    split at q2
    · exact q2.elim
    · rename_i hn
      rw [decide_eq_true_eq] at hn
      obtain ⟨a', vs', h1', h2', h3'⟩ := g'.lst es
      rw [h1] at h1'; cases h1'
      obtain ⟨b, ws, eb, nm, nc, hb, rb⟩ := rep_lst (r.rep rfl)
      subst eb
      refine ⟨a, b, vs', ws, rfl, rfl, h2', hb, by rw [h3'.length, rb.length, sizeLine_eq]; omega, ?_⟩
      exact q2 C' σv _ (g'.write es h1 (h3'.append rb))
theorem sndS_pop {n : Nat} {i : Nat} : SndS (Er := Er) (Tb := Tb) (Gv := Gv) n (.pop i) := fun M0 C0 H0 Gh C σ σv H δ W Dn g q => by
  have q' : OPost Er Tb M0 C0 H0 Gh W Dn (match ownAt σ i with
    | some ts => if ts.isEmpty then .bad else .nx (σ.set i (some (.own ts.dropLast))) δ
    | none => .bad) := q
  cases eo : ownAt σ i with
  | none => rw [eo] at q'; exact q'.elim
  | some ts =>
    rw [eo] at q'
    have es := ownAt_of eo
    obtain ⟨a, vs, h1, h2, h3⟩ := g.lst es
    simp only at q'
    split at q'
    · exact q'.elim
    · rename_i hn
      have hl : 0 < vs.length := by
        rw [h3.length]
        cases ts with
        | nil => exact absurd rfl hn
        | cons t r => simp
      refine ⟨.ref a, h1, .inl ⟨rfl, vs, SqL.of h2⟩, a, vs, vs[vs.length - 1], rfl, rfl, h2, List.getElem?_eq_getElem (by omega), ?_⟩
      exact q' C σv _ (g.write es h1 h3.dropLast)
theorem intOf_rep {x : D} {z : Int} {v : V} {M : Addr → Prop} (e : intOf x = some z) (r : RepS K C M H x v) : v = .int z := by
  cases x <;> simp only [intOf] at e <;> cases e
  exact rep_int (r.rep rfl)
theorem sndS_setx (sn : ∀ e, Snd Er Tb Gv e) {n : Nat} {o ix e : E} : SndS (Er := Er) (Tb := Tb) (Gv := Gv) n (.setx o ix e) := fun M0 C0 H0 Gh C σ σv H δ W Dn g q => by
  cases o <;> first | exact q.elim | skip
  case var i =>
  have q0 : OPost Er Tb M0 C0 H0 Gh W Dn (match σ[i]? with
      | some (some (.own ts)) => R.then ((evA' P e).v σ δ) σ fun d δ => R.then ((evA' P ix).v σ δ) σ fun x δ => match intOf x with
        | some z => (match ixN ts.length z with
          | some j => if isOwn d then .bad else .nx (σ.set i (some (.own (ts.set j d)))) δ
          | none => .bad)
        | none => .bad
      | some (some (.cell k)) => R.then ((evA' P e).v σ δ) σ fun d δ => R.then ((evA' P ix).v σ δ) σ fun x δ => match intOf x, δ[k]? with
        | some z, some ts => (match ixN ts.length z with
          | some j => if isOwn d then .bad else .nx σ (δ.set k (ts.set j d))
          | none => .bad)
        | _, _ => .bad
      | _ => .bad) := q
  split at q0
  · rename_i ts es
    obtain ⟨a, vs, h1, h2, h3⟩ := g.lst es
    refine (sn e).v W C _ σ δ σv H _ g.pre g.sl (OPost.then g q0 fun d δ1 C1 H1 l1 g1 q1 x r _ => ?_)
    refine ⟨.ref a, h1, ?_⟩
    refine (sn ix).v W C1 _ σ δ1 σv H1 _ g1.pre g1.sl (OPost.then g1 q1 fun y δ2 C2 H2 l2 g2 q2 u ru _ => ?_)
    split at q2
    · rename_i z ez
      split at q2
      · rename_i j ej
        split at q2
        · exact q2.elim
        · rename_i hd
          obtain ⟨a', vs', h1', h2', h3'⟩ := g2.lst es
          rw [h1] at h1'; cases h1'
          refine ⟨a, vs', z, j, rfl, intOf_rep ez ru, h2', by rw [h3'.length]; exact ej, ?_⟩
          exact q2 C2 σv _ (g2.write es h1 (h3'.set j ((r.step g1.pre.cellH l2 inl_).rep (by simpa using hd))))
      · exact q2.elim
    · exact q2.elim
  · rename_i k es
    obtain ⟨v, h1, hr⟩ := g.sl.at_ i _ es
    refine (sn e).v W C _ σ δ σv H _ g.pre g.sl (OPost.then g q0 fun d δ1 C1 H1 l1 g1 q1 x r _ => ?_)
    refine ⟨v, h1, ?_⟩
    refine (sn ix).v W C1 _ σ δ1 σv H1 _ g1.pre g1.sl (OPost.then g1 q1 fun y δ2 C2 H2 l2 g2 q2 u ru _ => ?_)
    split at q2
    · rename_i z ts ez et
      split at q2
      · rename_i j ej
        split at q2
        · exact q2.elim
        · rename_i hd
          obtain ⟨v', h1', hr'⟩ := g2.sl.at_ i _ es
          rw [h1] at h1'; cases h1'
          obtain ⟨a, ea, ec⟩ := rep_cell (K := K) (M := MM M0 σ σv) (H := H2) (hr'.rep rfl)
          obtain ⟨b, vs', e1, e2, e3⟩ := g2.pre.cells k ts et
          rw [ec] at e1; cases e1
          refine ⟨a, vs', z, j, ea, intOf_rep ez ru, e2, by rw [e3.length]; exact ej, ?_⟩
          exact q2 C2 σv _ (g2.writeCell ec (e3.set j ((r.step g1.pre.cellH l2 inl_).rep (by simpa using hd))))
      · exact q2.elim
    · exact q2.elim
  · exact q0.elim
theorem sndS (sn : ∀ e, Snd Er Tb Gv e) (n : Nat) : ∀ s, SndS (Er := Er) (Tb := Tb) (Gv := Gv) n s
  | .skip => sndS_skip
  | .pass => sndS_pass
  | .seq a b => sndS_seq (sndS sn n a) (sndS sn n b)
  | .expr e => sndS_expr sn
  | .asg g e => sndS_asg sn
  | .asgO i e => sndS_asgO sn
  | .par is a => sndS_par sn
  | .asgT is a => sndS_asgT sn
  | .setx o ix e => sndS_setx sn
  | .aug i o e => sndS_aug sn
  | .app i e => sndS_app sn
  | .ext i e => sndS_ext sn
  | .pop i => sndS_pop
  | .ite c a b => sndS_ite sn (sndS sn n a) (sndS sn n b)
  | .whl c b => sndS_whl sn (sndS sn n b)
  | .for g k it b => sndS_for sn (sndS sn n b)
  | .ret e => sndS_ret sn
  | .retN => sndS_retN
  | .rais c => sndS_rais
  | .raisP c e => sndS_raisP sn
  | .brk => sndS_brk
  | .cont => sndS_cont
  | .frz i s => sndS_frz (sndS sn n s)
end
end Mini

namespace Mini
open PySem PySem.Spec PyProof.Rows L2
section
variable {K : PySem.W.Frag} {P : Par} {Er : Errs K P.X} {Tb : List (Addr × Str)} {Gv : Nat → V}
theorem slot_start {ts : List D} {vs : List V} {w : Nat} {C : List Addr} {M : Addr → Prop} {H : Hp} (r : RepL K C M H ts vs) : ∀ (i : Nat) (d : D), (ts.map some ++ List.replicate (w - ts.length) none)[i]? = some (some d) →
    ∃ v, (vs.map some ++ List.replicate (w - vs.length) none)[i]? = some (some v) ∧ Rep K C M H d v := fun i d e => by
  have hl := r.length
  by_cases hi : i < ts.length
  · rw [List.getElem?_append_left (by simpa using hi), List.getElem?_map] at e
    cases et : ts[i]? with
    | none => rw [et] at e; cases e
    | some t =>
      rw [et] at e
      cases e
      obtain ⟨v, h1, h2⟩ := r.get et
      exact ⟨v, by rw [List.getElem?_append_left (by simp; omega), List.getElem?_map, h1]; rfl, h2⟩
  · rw [List.getElem?_append_right (by simp; omega)] at e
    simp only [List.getElem?_replicate] at e
    split at e <;> cases e
theorem run_ok (sn : ∀ e, Snd Er Tb Gv e) {n k : Nat} {s : S} {N : List Str} {vs : List V} {H : Hp} {Q : VK} {E : XK} (h : spOf Er Tb (runF P n k N.length s) vs H Q E) :
    rdS P Er Tb Gv (fun cls d _ H => E cls d H) s { nx := fun _ H' => Q .non H', rt := Q } (L2.start N vs) H := by
  obtain ⟨C, M, ts, δ, p, r, q⟩ := h
  have hl := r.length
  have st : ∀ (i : Nat) (d : D), (ts.map some ++ List.replicate (N.length - ts.length) none)[i]? = some (some d) → ∃ v, (L2.start N vs)[i]? = some (some v) ∧ Rep K C M H d v := slot_start r
  have no : ∀ a, ¬ ownA (ts.map some ++ List.replicate (N.length - ts.length) none) (L2.start N vs) a := fun a ⟨i, us, h1, h2⟩ => by
    obtain ⟨v, _, h3⟩ := st i _ h1
    unfold Rep at h3
    exact h3
  have mm : ∀ a, MM M (ts.map some ++ List.replicate (N.length - ts.length) none) (L2.start N vs) a → M a := fun a z => z.elim id fun z => absurd z (no a)
  unfold runF at q
  split at q
  · refine sndS sn n s M C H [] C _ (L2.start N vs) H δ _ _ ⟨p.sub mm, ⟨?_, fun i d e => ?_⟩, Le.refl C H, fun a z => absurd z (no a), fun i j us ws a h1 h2 => absurd ⟨i, us, h1, h2⟩ (no a), fun g hg => by simp at hg⟩ ?_
    · unfold L2.start
      simp only [List.length_append, List.length_map, List.length_replicate]
      omega
    · obtain ⟨v, h1, h2⟩ := st i d e
      exact ⟨v, h1, (Rep.sub mm _ _ h2).repS⟩
    · cases e : evS P n s (ts.map some ++ List.replicate (N.length - ts.length) none) δ with
      | nx σ' δ' =>
        rw [e] at q
        exact fun C' σv' H' g => (q C' H' g.le (g.pre.sub MM.sub0)).2 .non mk_non
      | rt d δ' =>
        rw [e] at q
        simp only at q
        cases ho : isOwn d with
        | false =>
          rw [ho] at q
          exact ⟨ho, fun C' H' v l p' rr => (q C' H' l p').2 v rr⟩
        | true => rw [ho] at q; exact q.elim
      | bk σ' δ' => rw [e] at q; exact q.elim
      | ct σ' δ' => rw [e] at q; exact q.elim
      | ex c pl σ' δ' =>
        rw [e] at q
        intro C' σv' H' cls d g x
        refine q C' H' cls d g.le (g.pre.sub MM.sub0) ⟨x.1, x.2.1, ?_⟩
        cases pl with
        | nil => trivial
        | cons t r =>
          obtain ⟨dd, v, e1, e2, e3⟩ := x.2.2
          exact ⟨dd, v, e1, e2, Rep.sub MM.sub0 _ _ e3⟩
      | bad => rw [e] at q; exact q.elim
  · exact q.elim
end
end Mini

namespace Mini
open PySem PySem.Spec PyProof.Rows L2

structure Nm where
  N : List Str
  fn : Nat → Option Str
  gn : Nat → Option Str
  blts : List Str
  told : Str
  hs : List (Str × Str)
  lw : Bool
  gx : Bool
def dbg : Str := "__debug__"
def gl (sc : Scope) (x : Str) : Bool := decide (sc.names.lookup x = some .globalImplicit) && !(x == dbg)
def vis (sc : Scope) (x : Str) : Bool := decide (sc.names.lookup x = some .local) || decide (sc.names.lookup x = some .cell) || decide (sc.names.lookup x = some .free)
def bltN : Blt → Str
  | .abs => "abs"
  | .len => "len"
  | .int => "int"
  | .bool => "bool"
  | .tuple => "tuple"
  | .list => "list"
  | .max2 => "max"
  | .min2 => "min"
  | .sum => "sum"
  | .max3 => "max"
  | .maxl => "max"
  | .minl => "min"
  | .minr => "min"
  | .sorted => "sorted"
  | .str => "str"
  | .isi => "isinstance"
def bltT (nm : Nm) (sc : Scope) (x : Str) : Bool := gl sc x && nm.blts.contains x && !(x == ("__name__" : Str))
structure Mt where
  e : Bool → Scope → Expr → Bool
  a : Bool → Scope → List Expr → Bool
def Mt.ex (f : Bool → Scope → Expr → Bool) : Mt where
  e := f
  a := fun _ _ _ => false
def mtIs (nm : Nm) (sc : Scope) : List Nat → List Expr → Bool
  | [], [] => true
  | i :: is, .Name x _ :: es => decide (nm.N[i]? = some x) && decide (sc.names.lookup x = some .local) && mtIs nm sc is es
  | _, _ => false
def locC (cs sc : Scope) (x : Str) : Bool := decide (sc.names.lookup x = some .local) || (decide (sc.names.lookup x = some .cell) && cs.names.lookup x == some .cell)
def mtIsC (nm : Nm) (cs sc : Scope) : List Nat → List Expr → Bool
  | [], [] => true
  | i :: is, .Name x _ :: es => decide (nm.N[i]? = some x) && locC cs sc x && mtIsC nm cs sc is es
  | _, _ => false
def mtG (nm : Nm) (cs sc : Scope) : G → Expr → Bool
  | .name i, .Name x _ => decide (nm.N[i]? = some x) && locC cs sc x
  | .tup is, .Tuple es _ _ => mtIsC nm cs sc is es
  | _, _ => false
def isTupE : Expr → Bool
  | .Tuple .. => true
  | _ => false
def tyNames : List String := ["int", "bool", "tuple", "str", "list"]
def ownOf (nm : Nm) (vs : List Nat) : List (Str × Nat) := vs.map fun i => (nm.N.getD i Str.empty, i)
def mtI (nm : Nm) (k : IK) (a : List Expr → Bool) (tg : Expr) (sc : Scope) : Expr → Bool := match k with
  | .seq => fun it => a [it]
  | .rng1 => fun it => match it with
    | .Call (.Name x _) [e] [] _ => x == ("range" : Str) && bltT nm sc x && a [e]
    | _ => false
  | .rng2 => fun it => match it with
    | .Call (.Name x _) [e, f] [] _ => x == ("range" : Str) && bltT nm sc x && a [e, f]
    | _ => false
  | .zip => fun it => match it with
    | .Call (.Name x _) [e, f] [] _ => x == ("zip" : Str) && bltT nm sc x && a [e, f] && isTupE tg
    | _ => false
  | .enum => fun it => match it with
    | .Call (.Name x _) [e] [] _ => x == ("enumerate" : Str) && bltT nm sc x && a [e] && isTupE tg
    | _ => false
  | .rev => fun it => match it with
    | .Call (.Name x _) [e] [] _ => x == ("reversed" : Str) && bltT nm sc x && a [e]
    | _ => false
  | .rng3 => fun it => match it with
    | .Call (.Name x _) [e, f, g] [] _ => x == ("range" : Str) && bltT nm sc x && a [e, f, g]
    | _ => false
def noArgs : Arguments → Bool
  | ⟨[], [], none, [], [], none, []⟩ => true
  | _ => false
def bnot : BoolOp → Bool
  | .And => true
  | .Or => false
def isNp : E → Bool
  | .np => true
  | _ => false
def isAnd : E → Bool
  | .and _ _ => true
  | _ => false
def isOr : E → Bool
  | .or _ _ => true
  | _ => false
def partM (lo : E) (f : Expr → Bool) : Option Expr → Bool
  | none => isNp lo
  | some l => f l
def restM (op : BoolOp) (ok : Bool) (f : Expr → Bool) (y : Expr) (p : Pos) : List Expr → Bool
  | [] => f y
  | z :: r => ok && f (.BoolOp op (y :: z :: r) p)
def ifsM (c : E) (f : Expr → Bool) : List Expr → Bool
  | [] => isNp c
  | [i] => f i
  | _ => false
def gxSB (csc : Scope) : Bool := !csc.isCoroutine && csc.names.all (fun y => !decide (y.2 = .cell)) && decide (csc.names.lookup (".0" : Str) = some NameKind.local)
def notList : Expr → Bool
  | .List .. => false
  | _ => true
def plainB : Expr → Bool
  | .Name .. => true
  | _ => false
def mt (nm : Nm) : E → Mt
  | .var i => .ex fun _ sc ex => match ex with
    | .Name x _ => decide (nm.N[i]? = some x) && vis sc x && !(x == dbg) && !(x == ("__classdict__" : Str))
    | _ => false
  | .int i => .ex fun _ _ ex => match ex with
    | .Constant (.int j) _ _ => decide (i = j)
    | _ => false
  | .bl b => .ex fun _ _ ex => match ex with
    | .Constant (.bool c) _ _ => decide (b = c)
    | _ => false
  | .non => .ex fun _ _ ex => match ex with
    | .Constant .none _ _ => true
    | _ => false
  | .str s => .ex fun _ _ ex => match ex with
    | .Constant (.str t) _ _ => decide (s = t)
    | _ => false
  | .ty n => .ex fun _ sc ex => match ex with
    | .Name x _ => decide (x = Str.ofString n) && tyNames.contains n && bltT nm sc x
    | _ => false
  | .glob g => .ex fun _ sc ex => match ex with
    | .Name x _ => decide (nm.gn g = some x) && gl sc x
    | _ => false
  | .bin o a b => .ex fun tl sc ex => match ex with
    | .BinOp x p y _ => decide (o = p) && (mt nm a).e tl sc x && (mt nm b).e tl sc y
    | _ => false
  | .neg a => .ex fun tl sc ex => match ex with
    | .UnaryOp .USub x _ => (mt nm a).e tl sc x
    | _ => false
  | .cmp o a b => .ex fun tl sc ex => match ex with
    | .Compare x [p] [y] _ => decide (o = p) && (mt nm a).e tl sc x && (mt nm b).e tl sc y
    | _ => false
  | .chain o o' a b c => .ex fun tl sc ex => match ex with
    | .Compare x [p, p'] [y, z] _ => decide (o = p) && decide (o' = p') && decide (o' ≠ .In) && decide (o' ≠ .NotIn) && (mt nm a).e tl sc x && (mt nm b).e tl sc y && (mt nm c).e tl sc z
    | _ => false
  | .and a b => .ex fun tl sc ex => match ex with
    | .BoolOp op (x :: y :: r) p => bnot op && (mt nm a).e tl sc x && restM .And (isAnd b) ((mt nm b).e tl sc) y p r
    | _ => false
  | .or a b => .ex fun tl sc ex => match ex with
    | .BoolOp op (x :: y :: r) p => !(bnot op) && (mt nm a).e tl sc x && restM .Or (isOr b) ((mt nm b).e tl sc) y p r
    | _ => false
  | .not a => .ex fun tl sc ex => match ex with
    | .UnaryOp .Not x _ => (mt nm a).e tl sc x
    | _ => false
  | .ite c a b => .ex fun tl sc ex => match ex with
    | .IfExp x y z _ => (mt nm c).e tl sc x && (mt nm a).e tl sc y && (mt nm b).e tl sc z
    | _ => false
  | .tup a => .ex fun tl sc ex => match ex with
    | .Tuple es _ _ => (mt nm a).a tl sc es
    | _ => false
  | .lst a => .ex fun tl sc ex => match ex with
    | .List es _ => (mt nm a).a tl sc es
    | _ => false
  | .idx a i => .ex fun tl sc ex => match ex with
    | .Subscript x y _ => (mt nm a).e tl sc x && (mt nm i).e tl sc y
    | _ => false
  | .cnt a b => .ex fun tl sc ex => match ex with
    | .Call (.Attribute x n apos) [y] [] cpos => decide (n = ("count" : Str)) && plainB x && (apos.endLine == cpos.line) && (mt nm a).e tl sc x && (mt nm b).e tl sc y
    | _ => false
  | .slc a lo hi => .ex fun tl sc ex => match ex with
    | .Subscript x (.Slice l h none _) _ => (mt nm a).e tl sc x && partM lo ((mt nm lo).e tl sc) l && partM hi ((mt nm hi).e tl sc) h
    | _ => false
  | .call f a => .ex fun tl sc ex => match ex with
    | .Call (.Name x _) es [] _ => decide (nm.fn f = some x) && gl sc x && (mt nm a).a tl sc es
    | _ => false
  | .blt b a => .ex fun tl sc ex => match ex with
    | .Call (.Name x _) (e :: es) [] _ => decide (bltN b = x) && bltT nm sc x && (mt nm a).a tl sc (e :: es)
    | _ => false
  | .lc vs g k it c e => .ex fun tl sc ex => match ex with
    | .ListComp elt [⟨tg, iter, ifs, 0⟩] csc _ => blkC nm.N sc csc (ownOf nm vs) && mtG nm csc (relS csc sc) g tg && mtI nm k ((mt nm it).a tl sc) tg sc iter &&
        ifsM c ((mt nm c).e false (relS csc sc)) ifs && (mt nm e).e false (relS csc sc) elt
    | _ => false
  | .gx b vs g k it c e => .ex fun tl sc ex => match ex with
    | .Call (.Name x _) [.GeneratorExp elt [⟨tg, iter, ifs, 0⟩] csc _] [] _ => (tl && nm.gx && decide (x = GX.gxName b) && bltT nm sc x && notList iter) && (blkC nm.N sc csc (ownOf nm vs) && gxSB csc && mtG nm csc csc g tg && mtI nm k ((mt nm it).a tl sc) tg sc iter &&
        ifsM c ((mt nm c).e false csc) ifs && (mt nm e).e false csc elt)
    | _ => false
  | .newc a => .ex (mt nm a).e
  | .scope a => .ex (mt nm a).e
  | .lend _ a => .ex (mt nm a).e
  | .told hs a => .ex fun tl sc ex => match ex with
    | .Call (.Name x _) [.Lambda ps body lsc _] [] _ => (tl && nm.lw) && decide (hs = nm.hs) && decide (x = nm.told) && gl sc x && noArgs ps && LamX.lamSB sc lsc && (mt nm a).e false lsc body
    | _ => false
  | .nil => { e := fun _ _ _ => false, a := fun _ _ es => es.isEmpty }
  | .cons a b => { e := fun _ _ _ => false, a := fun tl sc es => match es with
    | x :: r => (mt nm a).e tl sc x && (mt nm b).a tl sc r
    | [] => false }
  | .np => { e := fun _ _ _ => false, a := fun _ _ _ => false }
termination_by structural e => e
theorem mt_star (nm : Nm) : ∀ (e : E) (tl : Bool) (sc : Scope) (v : Expr) (p : Pos), (mt nm e).e tl sc (.Starred v p) = false
  | .var _, _, _, _, _ | .int _, _, _, _, _ | .bl _, _, _, _, _ | .non, _, _, _, _ | .str _, _, _, _, _ | .ty _, _, _, _, _ | .glob _, _, _, _, _ | .bin .., _, _, _, _ | .neg _, _, _, _, _ | .cmp .., _, _, _, _ | .chain .., _, _, _, _
  | .and .., _, _, _, _ | .or .., _, _, _, _ | .not .., _, _, _, _ | .ite .., _, _, _, _ | .tup .., _, _, _, _ | .lst .., _, _, _, _ | .idx .., _, _, _, _ | .cnt .., _, _, _, _ | .slc .., _, _, _, _ | .call .., _, _, _, _ | .blt .., _, _, _, _ | .lc .., _, _, _, _ | .gx .., _, _, _, _ | .told .., _, _, _, _
  | .nil, _, _, _, _ | .cons .., _, _, _, _ | .np, _, _, _, _ => rfl
  | .newc a, tl, sc, v, p => mt_star nm a tl sc v p
  | .scope a, tl, sc, v, p => mt_star nm a tl sc v p
  | .lend _ a, tl, sc, v, p => mt_star nm a tl sc v p
theorem mt_slice (nm : Nm) : ∀ (e : E) (tl : Bool) (sc : Scope) (l h s : Option Expr) (p : Pos), (mt nm e).e tl sc (.Slice l h s p) = false
  | .var _, _, _, _, _, _, _ | .int _, _, _, _, _, _, _ | .bl _, _, _, _, _, _, _ | .non, _, _, _, _, _, _ | .str _, _, _, _, _, _, _ | .ty _, _, _, _, _, _, _ | .glob _, _, _, _, _, _, _ | .bin .., _, _, _, _, _, _ | .neg _, _, _, _, _, _, _ | .cmp .., _, _, _, _, _, _ | .chain .., _, _, _, _, _, _
  | .and .., _, _, _, _, _, _ | .or .., _, _, _, _, _, _ | .not .., _, _, _, _, _, _ | .ite .., _, _, _, _, _, _ | .tup .., _, _, _, _, _, _ | .lst .., _, _, _, _, _, _ | .idx .., _, _, _, _, _, _ | .cnt .., _, _, _, _, _, _ | .slc .., _, _, _, _, _, _ | .call .., _, _, _, _, _, _ | .blt .., _, _, _, _, _, _ | .lc .., _, _, _, _, _, _ | .gx .., _, _, _, _, _, _ | .told .., _, _, _, _, _, _
  | .nil, _, _, _, _, _, _ | .cons .., _, _, _, _, _, _ | .np, _, _, _, _, _, _ => rfl
  | .newc a, tl, sc, l, h, s, p => mt_slice nm a tl sc l h s p
  | .scope a, tl, sc, l, h, s, p => mt_slice nm a tl sc l h s p
  | .lend _ a, tl, sc, l, h, s, p => mt_slice nm a tl sc l h s p
theorem mt_set (nm : Nm) : ∀ (e : E) (tl : Bool) (sc : Scope) (l : List Expr) (k : Nat) (p : Pos), (mt nm e).e tl sc (.Set l k p) = false
  | .var _, _, _, _, _, _ | .int _, _, _, _, _, _ | .bl _, _, _, _, _, _ | .non, _, _, _, _, _ | .str _, _, _, _, _, _ | .ty _, _, _, _, _, _ | .glob _, _, _, _, _, _ | .bin .., _, _, _, _, _ | .neg _, _, _, _, _, _ | .cmp .., _, _, _, _, _ | .chain .., _, _, _, _, _
  | .and .., _, _, _, _, _ | .or .., _, _, _, _, _ | .not .., _, _, _, _, _ | .ite .., _, _, _, _, _ | .tup .., _, _, _, _, _ | .lst .., _, _, _, _, _ | .idx .., _, _, _, _, _ | .cnt .., _, _, _, _, _ | .slc .., _, _, _, _, _ | .call .., _, _, _, _, _ | .blt .., _, _, _, _, _ | .lc .., _, _, _, _, _ | .gx .., _, _, _, _, _ | .told .., _, _, _, _, _
  | .nil, _, _, _, _, _ | .cons .., _, _, _, _, _ | .np, _, _, _, _, _ => rfl
  | .newc a, tl, sc, l, k, p => mt_set nm a tl sc l k p
  | .scope a, tl, sc, l, k, p => mt_set nm a tl sc l k p
  | .lend _ a, tl, sc, l, k, p => mt_set nm a tl sc l k p
theorem mtA_set (nm : Nm) (e : E) (tl : Bool) (sc : Scope) (l : List Expr) (k : Nat) (p : Pos) : (mt nm e).a tl sc [.Set l k p] = false := by
  cases e <;> first | rfl | skip
  case cons a b =>
    show ((mt nm a).e tl sc (.Set l k p) && (mt nm b).a tl sc []) = false
    rw [mt_set]; rfl
theorem fold_of {nm : Nm} {k : IK} {it : E} {tl : Bool} {sc : Scope} {tg iter : Expr} {env : Env} (h : mtI nm k ((mt nm it).a tl sc) tg sc iter = true) : ∀ x, foldedSetIterable iter env x = pure x := by
  intro x
  cases iter with
  | Set l n p =>
    cases k <;> first | cases h | skip
    have h' : (mt nm it).a tl sc [.Set l n p] = true := h
    rw [mtA_set] at h'; cases h'
  | _ => rfl
theorem star_cons {e : Expr} {es : List Expr} {env : Env} (h : ∀ v p, e ≠ .Starred v p) : starEach (e :: es) env = (false, eval e env) :: starEach es env := by
  cases e <;> first | rfl | exact absurd rfl (h _ _)
theorem mt_ns {nm : Nm} {e : E} {tl : Bool} {sc : Scope} {ex : Expr} (h : (mt nm e).e tl sc ex = true) : ∀ v p, ex ≠ .Starred v p := fun v p z => by
  rw [z, mt_star] at h; cases h
theorem mtA_star {nm : Nm} {env : Env} {pos : Pos} : ∀ (a : E) (tl : Bool) (sc : Scope) (es : List Expr), (mt nm a).a tl sc es = true → (backTo pos (starEach es env)).any (·.1) = false ∧ ∀ e, e ∈ es → ∀ v p, e ≠ .Starred v p
  | .nil, tl, sc, [], _ => ⟨rfl, fun e h => by simp at h⟩
  | .nil, tl, sc, _ :: _, h => by cases h
  | .cons a b, tl, sc, [], h => by cases h
  | .cons a b, tl, sc, x :: r, h => by
    have h' : ((mt nm a).e tl sc x && (mt nm b).a tl sc r) = true := h
    rw [Bool.and_eq_true] at h'
    obtain ⟨h1, h2⟩ := mtA_star b tl sc r h'.2
    have ns := mt_ns h'.1
    refine ⟨?_, fun e he => ?_⟩
    · rw [star_cons ns]
      show (false || (backTo pos (starEach r env)).any (·.1)) = false
      rw [h1]; rfl
    · rcases List.mem_cons.mp he with he | he
      · rw [he]; exact ns
      · exact h2 e he
  | .var _, _, _, _, h | .int _, _, _, _, h | .bl _, _, _, _, h | .non, _, _, _, h | .str _, _, _, _, h | .ty _, _, _, _, h | .glob _, _, _, _, h | .bin .., _, _, _, h | .neg _, _, _, _, h | .cmp .., _, _, _, h | .chain .., _, _, _, h
  | .and .., _, _, _, h | .or .., _, _, _, h | .not .., _, _, _, h | .ite .., _, _, _, h | .tup .., _, _, _, h | .lst .., _, _, _, h | .idx .., _, _, _, h | .cnt .., _, _, _, h | .slc .., _, _, _, h | .call .., _, _, _, h | .blt .., _, _, _, h | .lc .., _, _, _, h | .gx .., _, _, _, h | .told .., _, _, _, h
  | .np, _, _, _, h | .newc _, _, _, _, h | .scope _, _, _, _, h | .lend _ _, _, _, _, h => by cases h
theorem boot_blt : ∀ b, bootBuiltins (bltN b) = some (bltV b)
  | .abs => by decide +kernel
  | .len => by decide +kernel
  | .int => by decide +kernel
  | .bool => by decide +kernel
  | .tuple => by decide +kernel
  | .list => by decide +kernel
  | .max2 => by decide +kernel
  | .min2 => by decide +kernel
  | .sum => by decide +kernel
  | .max3 => by decide +kernel
  | .maxl => by decide +kernel
  | .minl => by decide +kernel
  | .minr => by decide +kernel
  | .sorted => by decide +kernel
  | .str => by decide +kernel
  | .isi => by decide +kernel
theorem boot_ty : ∀ n, n ∈ tyNames → bootBuiltins (Str.ofString n) = some (.type n) := by decide +kernel
end Mini

namespace Mini
open PySem PySem.Spec PyProof.Rows L2
structure Lib (P : Par) {K : PySem.W.Frag} (Er : Errs K P.X) (Tb : List (Addr × Str)) (Gv : Nat → V) (nm : Nm) (kk : Nat) (prog : Program) (w : World) (mg : Str → Option Value) (base : Heap) : Prop where
  fns : ∀ f x, nm.fn f = some x → ∃ fa fd ps k, k ≤ kk ∧ mg x = some (.ref fa) ∧ PySem.W.keepIn K (.ref fa) = true ∧ FnOk prog w K mg base (L2.CX prog w) k fa fd ps (spOf Er Tb (P.F f)) ∧ Binds K fd ps []
  glb : ∀ g x, nm.gn g = some x → ∃ u, mg x = some u ∧ RelV (Gv g) u
  blt : ∀ x, x ∈ nm.blts → mg x = none
structure Amb (nm : Nm) (kk : Nat) (Tb : List (Addr × Str)) (xv : Str → Value) (X : Cx) (sc : Scope) (W : WX) (tl : Bool) : Prop where
  N : X.N = nm.N
  nd : nm.N.Nodup
  calm : X.calm = true
  hsc : X.env.scope = sc
  tk : Takes X W
  room : Room kk X.A
  gx : tl = true → nm.gx = true → Room (kk + 1) X.A ∧ ∃ c P : Addr, LamX.TabB X.base X.mg c P ∧ X.env.code = .ref c ∧ (P, X.env.qual ++ "<genexpr>") ∈ Tb ∧ ∀ p ∈ Tb, p.1 = P → p.2 = X.env.qual ++ "<genexpr>"
  told : tl = true → nm.lw = true → ∀ (t : XK → TE) (ps : Arguments) (body : Expr) (lsc : Scope) (p lpos pos : Pos), noArgs ps = true → LamX.lamSB sc lsc = true → gl sc nm.told = true →
    (∀ (A : Around) (outer : List Env) (s : Shared) (H : Hp) (E : XK) (f c' : Addr), Room kk (A.deeper (LamX.lamEnv X lsc s.heap.objs.size f c')) → PE (LamX.lamCx X A outer s H E lsc f c') body (t E)) →
    PE X (.Call (.Name nm.told p) [.Lambda ps body lsc lpos] [] pos) (LamX.tLam Tb (TTm X.K xv nm.hs) t)
section
variable {X : Cx} {sc : Scope} {nm : Nm}
theorem gl_of {x : Str} (hs : X.env.scope = sc) (h : gl sc x = true) : Gl X x ∧ (x == ("__debug__" : Str)) = false := by
  unfold gl at h
  rw [Bool.and_eq_true, Bool.not_eq_true'] at h
  refine ⟨?_, h.2⟩
  show X.env.scope.names.lookup x = _
  rw [hs]
  exact of_decide_eq_true h.1
theorem bltT_of {x : Str} (hs : X.env.scope = sc) (h : bltT nm sc x = true) : Gl X x ∧ (x == ("__debug__" : Str)) = false ∧ x ∈ nm.blts ∧ x ≠ "__name__" := by
  unfold bltT at h
  rw [Bool.and_eq_true, Bool.and_eq_true, Bool.not_eq_true'] at h
  obtain ⟨h1, h2⟩ := gl_of hs h.1.1
  exact ⟨h1, h2, by simpa using h.1.2, by simpa using h.2⟩
theorem vis_of {x : Str} (hs : X.env.scope = sc) (h : vis sc x = true) : Vis X.env.scope x := by
  unfold vis at h
  rw [Bool.or_eq_true, Bool.or_eq_true] at h
  rw [hs]
  rcases h with (h | h) | h
  · exact .inl (of_decide_eq_true h)
  · exact .inr (.inl (of_decide_eq_true h))
  · exact .inr (.inr (of_decide_eq_true h))
theorem isN_ {x : Str} {i : Nat} (hN : X.N = nm.N) (h : decide (nm.N[i]? = some x) = true) : X.N[i]? = some x := by rw [hN]; exact of_decide_eq_true h
theorem val3 {ex : Expr} {t : TE} (h : PE X ex t) (he : ∀ whole, isTrue ex X.env whole = (do let v ← whole; standAt ex.pos; holding [v] (truthy v)) := by intro _; rfl) (hb : ∀ op es p, ex ≠ .BoolOp op es p := by intro _ _ _ z; cases z) :
    PE X ex (Rd.val X.K t).v ∧ PT X ex (Rd.val X.K t).t ∧ PO X (some ex) (Rd.val X.K t).o ∧ (∀ op es p, ex = .BoolOp op es p → PW X ex (Rd.val X.K t).t) := ⟨h, pt_truth h he, po_some h, fun op es p z => absurd z (hb op es p)⟩
theorem tst3 {ex : Expr} {t : TE} {tt : TT} (h : PE X ex t) (h2 : PT X ex tt) (h3 : ∀ op es p, ex = .BoolOp op es p → PW X ex tt) : PE X ex (Rd.tst t tt).v ∧ PT X ex (Rd.tst t tt).t ∧ PO X (some ex) (Rd.tst t tt).o ∧ (∀ op es p, ex = .BoolOp op es p → PW X ex (Rd.tst t tt).t) :=
  ⟨h, h2, ⟨fun _ _ _ _ _ _ z => z.elim⟩, h3⟩
theorem pt_no {ex : Expr} : PT X ex fun _ _ _ => False := ⟨fun _ _ _ _ _ _ z => z.elim⟩
theorem pw_no {ex : Expr} : PW X ex fun _ _ _ => False := ⟨fun _ _ _ _ _ _ _ z => z.elim⟩
theorem pe_callS0 {CX : CXT} {k : Nat} {f : Addr} {fd : FuncData} {ps : List Str} {sp : Sp} {E : L2.St → XK} {x : Str} {p pos : Pos} (F : FnOk X.prog X.w X.K X.mg X.base CX k f fd ps sp) (hr : Room k X.A) (hg : Gl X x) (hm : X.mg x = some (.ref f)) (hk : PySem.W.keepIn X.K (.ref f) = true) (hb : Binds X.K fd ps []) (hx : ∀ σ, PassesAt CX X σ (E σ))
    (hdb : (x == ("__debug__" : Str)) = false) : PE X (.Call (.Name x p) [] [] pos) (tCallS sp E tNil) := by
  refine ⟨fun pins s σ H Q I h => ?_⟩
  refine wpAny_Call_Name_kw (ld_glob I hg hm ?_ hdb)
  exact PySem.W.callWith_K0 I.kIn hk (run_fnS (us := []) F hr hb (hx σ) I .nil h)
theorem nos_of {nm : Nm} {a : E} {tl : Bool} {sc : Scope} {ex : Expr} (h : (mt nm a).e tl sc ex = true) : PlainIx ex := by
  intro o i
  cases ex with
  | Slice l u s p => rw [mt_slice] at h; cases h
  | _ => rfl
theorem not_in {o : CmpOp} {b : Expr} (h1 : decide (o ≠ .In) = true) (h2 : decide (o ≠ .NotIn) = true) : behindInMarks o b = false := nobehind b (of_decide_eq_true h1) (of_decide_eq_true h2)

theorem locC_of {cs : Scope} {x : Str} (hf : ∀ x, (cs.names.lookup x == some .cell) = true → X.fn x = true) (hs : X.env.scope = sc) (h : locC cs sc x = true) : Loc X.env.scope x ∧ (X.fn x = true ∨ X.env.scope.names.lookup x = some .local) := by
  unfold locC at h
  rw [Bool.or_eq_true, Bool.and_eq_true] at h
  rw [hs]
  rcases h with h | ⟨h, k⟩
  · exact ⟨.inl (of_decide_eq_true h), .inr (of_decide_eq_true h)⟩
  · exact ⟨.inr (of_decide_eq_true h), .inl (hf x k)⟩
theorem pgs_of {cs : Scope} {is : List Nat} {es : List Expr} (hf : ∀ x, (cs.names.lookup x == some .cell) = true → X.fn x = true) (hN : X.N = nm.N) (nd : nm.N.Nodup) (hs : X.env.scope = sc) (h : mtIsC nm cs sc is es = true) :
    PGs X es (gNames is) ∧ (assignEach es X.env).length = is.length ∧ (assignEach es X.env).findIdx? (·.1) = none ∧ es.length = is.length := by
  induction is generalizing es with
  | nil =>
    cases es with
    | nil => exact ⟨pgs_nil, rfl, rfl, rfl⟩
    | cons e r => cases h
  | cons i is ih =>
    cases es with
    | nil => cases h
    | cons e r =>
      cases e <;> first | cases h | skip
      case Name x p =>
      have h' : (decide (nm.N[i]? = some x) && locC cs sc x && mtIsC nm cs sc is r) = true := h
      rw [Bool.and_eq_true, Bool.and_eq_true] at h'
      obtain ⟨h1, h2, h3, h4⟩ := ih h'.2
      have hl := locC_of hf hs h'.1.2
      refine ⟨pgs_cons (pg_name (by rw [hN]; exact nd) (isN_ hN h'.1.1) hl.1 hl.2) h1 (by rfl), ?_, ?_, ?_⟩
      · show (assignEach r X.env).length + 1 = _
        rw [h2]; rfl
      · show ((false, assign (.Name x p) X.env) :: assignEach r X.env).findIdx? (·.1) = none
        rw [List.findIdx?_cons, h3]
        rfl
      · rw [List.length_cons, List.length_cons, h4]
theorem pg_or {ex : Expr} {t u : TG} (h1 : PG X ex t) (h2 : PG X ex u) : PG X ex fun v σ H Q => t v σ H Q ∨ u v σ H Q := ⟨fun pins s σ H v w Q I r q => q.elim (fun q => h1.run pins s σ H v w Q I r q) fun q => h2.run pins s σ H v w Q I r q⟩
theorem pg_of {cs : Scope} {g : G} {tg : Expr} (hf : ∀ x, (cs.names.lookup x == some .cell) = true → X.fn x = true) (hc : X.calm = true) (hN : X.N = nm.N) (nd : nm.N.Nodup) (hs : X.env.scope = sc) (h : mtG nm cs sc g tg = true) : PG X tg (gK X.K g) := by
  cases g with
  | name i =>
    cases tg <;> first | cases h | skip
    case Name x p =>
    have h' : (decide (nm.N[i]? = some x) && locC cs sc x) = true := h
    rw [Bool.and_eq_true] at h'
    have hl := locC_of hf hs h'.2
    exact pg_name (by rw [hN]; exact nd) (isN_ hN h'.1) hl.1 hl.2
  | tup is =>
    cases tg <;> first | cases h | skip
    case Tuple es k p =>
    obtain ⟨h1, h2, h3, _⟩ := pgs_of hf hN nd hs h
    exact pg_or (pg_tup hc h1 h2 h3) (pg_lst hc h1 h2 h3)

theorem pi_seq {tg l : Expr} {te : TE} (hl : PE X l te) : PI X tg l (rI (K := X.K) .seq (tCons te tNil)) := by
  refine ⟨fun pins s σ H R I h => ?_⟩
  refine thn (hl.run pins s σ H _ I h) fun v s1 ⟨x, H1, I1, r1, q1⟩ => ?_
  obtain ⟨a, e, q1⟩ := q1
  cases e
  cases r1
  rcases q1 with ⟨⟨xs, hq⟩, q⟩ | ⟨⟨xs, hq⟩, q⟩
  · obtain ⟨its, rv, p, hz⟩ := I1.list hq
    refine wpAny_pyIter_list p.isList ?_
    refine ⟨s1.heap.objs.size, [s1.heap.objs.size], _, _, H1, rfl, I1.kept (t' := s1.toks) fun b o e => Heap.get?_push_of_some _ e, turn_list a _, ⟨_, Heap.get?_push_size _ rfl, rfl, rfl⟩, fun b hb => ?_, q⟩
    have e : b = s1.heap.objs.size := by simpa using hb
    subst e
    exact I1.fpOk (Nat.le_refl _) (I1.hok.fresh (Nat.le_refl _))
  · obtain ⟨its, rv, p, hz⟩ := I1.tuple hq
    refine wpAny_pyIter_tuple (show s1.heap.IsTuple a its.toArray from p) ?_
    refine ⟨s1.heap.objs.size, [s1.heap.objs.size], _, _, H1, rfl, I1.kept (t' := s1.toks) fun b o e => Heap.get?_push_of_some _ e, turn_tuple a _, ⟨_, Heap.get?_push_size _ rfl, rfl, rfl⟩, fun b hb => ?_, q⟩
    have e : b = s1.heap.objs.size := by simpa using hb
    subst e
    exact I1.fpOk (Nat.le_refl _) (I1.hok.fresh (Nat.le_refl _))
theorem pi_rev {tg e : Expr} {te : TE} {p pos : Pos} (hg : Gl X "reversed") (hm : X.mg "reversed" = none) (he : PE X e te) (ns : ∀ v p, e ≠ .Starred v p) : PI X tg (.Call (.Name "reversed" p) [e] [] pos) (rI (K := X.K) .rev (tCons te tNil)) := by
  have h := RT.pi_revA (tg := tg) (p := p) (pos := pos) hg hm he (star_cons ns)
  refine ⟨fun pins s σ H R I q => h.run pins s σ H R I ?_⟩
  have q' : te σ H fun x H1 => ∃ a xs, [x] = [V.ref a] ∧ ((SqL X.K H1 a xs ∧ R (Itv X.K a xs.length) H1) ∨ (SqT X.K H1 a xs ∧ R (RT.ItvT X.K a xs.length) H1)) := q
  have e : (fun x H1 => ∃ a xs, [x] = [V.ref a] ∧ ((SqL X.K H1 a xs ∧ R (Itv X.K a xs.length) H1) ∨ (SqT X.K H1 a xs ∧ R (RT.ItvT X.K a xs.length) H1))) = fun x H1 => ∃ (a : Addr) (xs : List V), x = .ref a ∧ ((SqL X.K H1 a xs ∧ R (Itv X.K a xs.length) H1) ∨ (SqT X.K H1 a xs ∧ R (RT.ItvT X.K a xs.length) H1)) := by
    funext x H1
    simp
  rw [e] at q'
  exact q'
def One (nm : Nm) (X : Cx) (it : E) (tl : Bool) (sc : Scope) (ta : TA) : Prop := ∀ ex, (mt nm it).a tl sc [ex] = true → ∃ te, ta = tCons te tNil ∧ PE X ex te
theorem pi_of {k : IK} {it : E} {ta : TA} {tl : Bool} {tg iter : Expr} (hsc : X.env.scope = sc) (hb : ∀ x, x ∈ nm.blts → X.mg x = none) (hpa : ∀ es, (mt nm it).a tl sc es = true → PA X es ta) (h1 : One nm X it tl sc ta)
    (h : mtI nm k ((mt nm it).a tl sc) tg sc iter = true) : PI X tg iter (rI (K := X.K) k ta) := by
  cases k with
  | seq =>
    obtain ⟨te, e, hp⟩ := h1 iter h
    rw [e]; exact pi_seq hp
  | rng1 =>
    simp only [mtI] at h
    split at h
    · rename_i x _ e _
      rw [Bool.and_eq_true, Bool.and_eq_true] at h
      obtain ⟨⟨hx, hbt⟩, ha⟩ := h
      have hx : x = "range" := by simpa using hx
      subst hx
      obtain ⟨g1, g2, g3, g4⟩ := bltT_of hsc hbt
      exact pi_range1 g1 (hb _ g3) (hpa _ ha) (star_cons (((mtA_star (env := X.env) (pos := default) it tl sc _ ha)).2 e (by simp)))
    · cases h
  | rng2 =>
    simp only [mtI] at h
    split at h
    · rename_i x _ e f _
      rw [Bool.and_eq_true, Bool.and_eq_true] at h
      obtain ⟨⟨hx, hbt⟩, ha⟩ := h
      have hx : x = "range" := by simpa using hx
      subst hx
      obtain ⟨g1, g2, g3, g4⟩ := bltT_of hsc hbt
      have hns := (mtA_star (env := X.env) (pos := default) it tl sc _ ha).2
      have hf : starEach [f] X.env = [(false, eval f X.env)] := star_cons (hns f (by simp))
      exact pi_range2 g1 (hb _ g3) (hpa _ ha) (by rw [star_cons (hns e (by simp)), hf]) hf
    · cases h
  | rng3 =>
    simp only [mtI] at h
    split at h
    · rename_i x _ e f g _
      rw [Bool.and_eq_true, Bool.and_eq_true] at h
      obtain ⟨⟨hx, hbt⟩, ha⟩ := h
      have hx : x = "range" := by simpa using hx
      subst hx
      obtain ⟨g1, g2, g3, g4⟩ := bltT_of hsc hbt
      have hns := (mtA_star (env := X.env) (pos := default) it tl sc _ ha).2
      have hg2 : starEach [g] X.env = [(false, eval g X.env)] := star_cons (hns g (by simp))
      have hf : starEach [f, g] X.env = [(false, eval f X.env), (false, eval g X.env)] := by rw [star_cons (hns f (by simp)), hg2]
      exact pi_range3 g1 (hb _ g3) (hpa _ ha) (star_cons (hns e (by simp))) (by rw [hf]; rfl)
    · cases h
  | zip =>
    simp only [mtI] at h
    split at h
    · rename_i x _ e f _
      rw [Bool.and_eq_true, Bool.and_eq_true, Bool.and_eq_true] at h
      obtain ⟨⟨⟨hx, hbt⟩, ha⟩, ht⟩ := h
      have hx : x = "zip" := by simpa using hx
      subst hx
      obtain ⟨g1, g2, g3, g4⟩ := bltT_of hsc hbt
      have hns := (mtA_star (env := X.env) (pos := default) it tl sc _ ha).2
      cases tg <;> first | cases ht | skip
      case Tuple.refl ts kk tp =>
      have hf : starEach [f] X.env = [(false, eval f X.env)] := star_cons (hns f (by simp))
      exact RZ.pi_zipA g1 (hb _ g3) (hpa _ ha) (star_cons (hns e (by simp))) (by rw [hf]; rfl)
    · cases h
  | enum =>
    simp only [mtI] at h
    split at h
    · rename_i x _ e _
      rw [Bool.and_eq_true, Bool.and_eq_true, Bool.and_eq_true] at h
      obtain ⟨⟨⟨hx, hbt⟩, ha⟩, ht⟩ := h
      have hx : x = "enumerate" := by simpa using hx
      subst hx
      obtain ⟨g1, g2, g3, g4⟩ := bltT_of hsc hbt
      have hns := (mtA_star (env := X.env) (pos := default) it tl sc _ ha).2
      cases tg <;> first | cases ht | skip
      case Tuple.refl ts kk tp =>
      exact ET.pi_enumA g1 (hb _ g3) (hpa _ ha) (star_cons (hns e (by simp)))
    · cases h
  | rev =>
    simp only [mtI] at h
    split at h
    · rename_i x _ e _
      rw [Bool.and_eq_true, Bool.and_eq_true] at h
      obtain ⟨⟨hx, hbt⟩, ha⟩ := h
      have hx : x = "reversed" := by simpa using hx
      subst hx
      obtain ⟨g1, g2, g3, g4⟩ := bltT_of hsc hbt
      obtain ⟨te, e1, hp⟩ := h1 e ha
      rw [e1]
      exact pi_rev g1 (hb _ g3) hp ((mtA_star (env := X.env) (pos := default) it tl sc _ ha).2 e (by simp))
    · cases h
end

structure Der (nm : Nm) {P : Par} (X : Cx) (Er : Errs X.K P.X) (Tb : List (Addr × Str)) (Gv : Nat → V) (W : WX) (sc : Scope) (tl : Bool) (m : E) : Prop where
  e : ∀ ex, (mt nm m).e tl sc ex = true → PE X ex (rd P Er Tb Gv m W).v ∧ PT X ex (rd P Er Tb Gv m W).t ∧ PO X (some ex) (rd P Er Tb Gv m W).o ∧ (∀ op es p, ex = .BoolOp op es p → PW X ex (rd P Er Tb Gv m W).t)
  a : ∀ es, (mt nm m).a tl sc es = true → PA X es (rd P Er Tb Gv m W).a
  one : One nm X m tl sc (rd P Er Tb Gv m W).a
section
variable {nm : Nm} {kk : Nat} {P : Par} {Tb : List (Addr × Str)} {Gv : Nat → V}
def DerAll (nm : Nm) (kk : Nat) (P : Par) (Tb : List (Addr × Str)) (Gv : Nat → V) (e : E) : Prop := ∀ (X : Cx) (Er : Errs X.K P.X) (W : WX) (sc : Scope) (tl : Bool), Lib P Er Tb Gv nm kk X.prog X.w X.mg X.base → Amb nm kk Tb Er.xv X sc W tl → Der nm X Er Tb Gv W sc tl e
theorem der_no {e : E} {X : Cx} {Er : Errs X.K P.X} {W : WX} {sc : Scope} {tl : Bool} (h : ∀ es, (mt nm e).a tl sc es = false)
    (he : ∀ ex, (mt nm e).e tl sc ex = true → PE X ex (rd P Er Tb Gv e W).v ∧ PT X ex (rd P Er Tb Gv e W).t ∧ PO X (some ex) (rd P Er Tb Gv e W).o ∧ (∀ op es p, ex = .BoolOp op es p → PW X ex (rd P Er Tb Gv e W).t)) : Der nm X Er Tb Gv W sc tl e :=
  ⟨he, fun es z => absurd (z.symm.trans (h es)) (by decide), fun ex z => absurd (z.symm.trans (h [ex])) (by decide)⟩
theorem der_var {i : Nat} : DerAll nm kk P Tb Gv (.var i) := fun X Er W sc tl L A => der_no (fun _ => rfl) fun ex h => by
  cases ex <;> first | cases h | skip
  case Name x p =>
  have h' : (decide (nm.N[i]? = some x) && vis sc x && !(x == dbg) && !(x == ("__classdict__" : Str))) = true := h
  rw [Bool.and_eq_true, Bool.and_eq_true, Bool.and_eq_true, Bool.not_eq_true', Bool.not_eq_true'] at h'
  exact val3 (pe_var (isN_ A.N h'.1.1.1) (vis_of A.hsc h'.1.1.2) h'.1.2 h'.2)
theorem der_int {i : Int} : DerAll nm kk P Tb Gv (.int i) := fun X Er W sc tl L A => der_no (fun _ => rfl) fun ex h => by
  cases ex <;> first | cases h | skip
  case Constant c k p =>
  cases c <;> first | cases h | skip
  case int j =>
  have e : i = j := of_decide_eq_true h
  subst e
  exact val3 pe_int
theorem der_bl {b : Bool} : DerAll nm kk P Tb Gv (.bl b) := fun X Er W sc tl L A => der_no (fun _ => rfl) fun ex h => by
  cases ex <;> first | cases h | skip
  case Constant c k p =>
  cases c <;> first | cases h | skip
  case bool j =>
  have e : b = j := of_decide_eq_true h
  subst e
  exact val3 pe_bl
theorem der_non : DerAll nm kk P Tb Gv .non := fun X Er W sc tl L A => der_no (fun _ => rfl) fun ex h => by
  cases ex <;> first | cases h | skip
  case Constant c k p =>
  cases c <;> first | cases h | skip
  case none => exact val3 pe_non
theorem der_str {s : Str} : DerAll nm kk P Tb Gv (.str s) := fun X Er W sc tl L A => der_no (fun _ => rfl) fun ex h => by
  cases ex <;> first | cases h | skip
  case Constant c k p =>
  cases c <;> first | cases h | skip
  case str j =>
  have e : s = j := of_decide_eq_true h
  subst e
  exact val3 pe_str
theorem der_ty {n : String} : DerAll nm kk P Tb Gv (.ty n) := fun X Er W sc tl L A => der_no (fun _ => rfl) fun ex h => by
  cases ex <;> first | cases h | skip
  case Name x p =>
  have h' : (decide (x = Str.ofString n) && tyNames.contains n && bltT nm sc x) = true := h
  rw [Bool.and_eq_true, Bool.and_eq_true] at h'
  obtain ⟨g1, g2, g3, g4⟩ := bltT_of A.hsc h'.2
  have hx : x = Str.ofString n := of_decide_eq_true h'.1.1
  have hb := boot_ty n (by simpa using h'.1.2)
  exact val3 (pe_bltn g1 (L.blt _ g3) (by rw [hx]; exact hb) rfl g4 g2)
theorem der_glob {g : Nat} : DerAll nm kk P Tb Gv (.glob g) := fun X Er W sc tl L A => der_no (fun _ => rfl) fun ex h => by
  cases ex <;> first | cases h | skip
  case Name x p =>
  have h' : (decide (nm.gn g = some x) && gl sc x) = true := h
  rw [Bool.and_eq_true] at h'
  obtain ⟨u, h1, h2⟩ := L.glb g x (of_decide_eq_true h'.1)
  obtain ⟨g1, g2⟩ := gl_of A.hsc h'.2
  exact val3 (pe_glob g1 h1 h2 g2)
theorem der_bin {o : Operator} {a b : E} (ha : DerAll nm kk P Tb Gv a) (hb : DerAll nm kk P Tb Gv b) : DerAll nm kk P Tb Gv (.bin o a b) := fun X Er W sc tl L A => der_no (fun _ => rfl) fun ex h => by
  cases ex <;> first | cases h | skip
  case BinOp x p y q =>
  have h' : (decide (o = p) && (mt nm a).e tl sc x && (mt nm b).e tl sc y) = true := h
  rw [Bool.and_eq_true, Bool.and_eq_true] at h'
  have e : o = p := of_decide_eq_true h'.1.1
  subst e
  exact val3 (pe_op (op_bin o) ((ha X Er W sc tl L A).e x h'.1.2).1 ((hb X Er W sc tl L A).e y h'.2).1)
theorem der_neg {a : E} (ha : DerAll nm kk P Tb Gv a) : DerAll nm kk P Tb Gv (.neg a) := fun X Er W sc tl L A => der_no (fun _ => rfl) fun ex h => by
  cases ex <;> first | cases h | skip
  case UnaryOp o x p =>
  cases o <;> first | cases h | skip
  case USub =>
  exact val3 (pe_un un_neg ((ha X Er W sc tl L A).e x h).1)
theorem der_cmp {o : CmpOp} {a b : E} (ha : DerAll nm kk P Tb Gv a) (hb : DerAll nm kk P Tb Gv b) : DerAll nm kk P Tb Gv (.cmp o a b) := fun X Er W sc tl L A => der_no (fun _ => rfl) fun ex h => by
  cases ex <;> first | cases h | skip
  case Compare x ops cs q =>
  rcases ops with _ | ⟨p, _ | ⟨_, _⟩⟩ <;> first | cases h | skip
  rcases cs with _ | ⟨y, _ | ⟨_, _⟩⟩ <;> first | cases h | skip
  have h' : (decide (o = p) && (mt nm a).e tl sc x && (mt nm b).e tl sc y) = true := h
  rw [Bool.and_eq_true, Bool.and_eq_true] at h'
  have e : o = p := of_decide_eq_true h'.1.1
  subst e
  have hu65 : X.A.units + 65 < cLine := by have := A.room.un; omega
  have pa := ((ha X Er W sc tl L A).e x h'.1.2).1
  have pb := ((hb X Er W sc tl L A).e y h'.2).1
  have ni : behindInMarks o y = false := by
    cases y <;> first | rfl | skip
    case Set l k p => rw [mt_set] at h'; exact absurd h'.2 (by decide)
  exact tst3 (pe_cmpR (op_cmp hu65 o) pa pb ni) (pt_cmpR (op_cmp hu65 o) pa pb ni) (fun _ _ _ z => by cases z)
theorem der_chain {o o' : CmpOp} {a b c : E} (ha : DerAll nm kk P Tb Gv a) (hb : DerAll nm kk P Tb Gv b) (hc : DerAll nm kk P Tb Gv c) : DerAll nm kk P Tb Gv (.chain o o' a b c) := fun X Er W sc tl L A => der_no (fun _ => rfl) fun ex h => by
  cases ex <;> first | cases h | skip
  case Compare x ops cs q =>
  rcases ops with _ | ⟨p, _ | ⟨p', _ | ⟨_, _⟩⟩⟩ <;> first | cases h | skip
  rcases cs with _ | ⟨y, _ | ⟨z, _ | ⟨_, _⟩⟩⟩ <;> first | cases h | skip
  have h' : (decide (o = p) && decide (o' = p') && decide (o' ≠ .In) && decide (o' ≠ .NotIn) && (mt nm a).e tl sc x && (mt nm b).e tl sc y && (mt nm c).e tl sc z) = true := h
  rw [Bool.and_eq_true, Bool.and_eq_true, Bool.and_eq_true, Bool.and_eq_true, Bool.and_eq_true, Bool.and_eq_true] at h'
  have e : o = p := of_decide_eq_true h'.1.1.1.1.1.1
  have e' : o' = p' := of_decide_eq_true h'.1.1.1.1.1.2
  subst e e'
  have pa := ((ha X Er W sc tl L A).e x h'.1.1.2).1
  have pb := ((hb X Er W sc tl L A).e y h'.1.2).1
  have pc := ((hc X Er W sc tl L A).e z h'.2).1
  have ni : lastMarks [o, o'] [y, z] = false := not_in h'.1.1.1.1.2 h'.1.1.1.2
  exact tst3 (pe_chain (op_cmp (by have := A.room.un; omega) o) (op_cmp (by have := A.room.un; omega) o') pa pb pc ni) (pt_chain (op_cmp (by have := A.room.un; omega) o) (op_cmp (by have := A.room.un; omega) o') pa pb pc ni) (fun _ _ _ z => by cases z)
theorem bnot_and {op : BoolOp} (h : bnot op = true) : op = .And := by cases op <;> first | rfl | cases h
theorem bnot_or {op : BoolOp} (h : (!(bnot op)) = true) : op = .Or := by cases op <;> first | rfl | cases h
theorem der_and {a b : E} (ha : DerAll nm kk P Tb Gv a) (hb : DerAll nm kk P Tb Gv b) : DerAll nm kk P Tb Gv (.and a b) := fun X Er W sc tl L A => der_no (fun _ => rfl) fun ex h => by
  cases ex <;> first | cases h | skip
  case BoolOp op es p =>
  rcases es with _ | ⟨x, _ | ⟨y, r⟩⟩ <;> first | cases h | skip
  have h' : (bnot op && (mt nm a).e tl sc x && restM .And (isAnd b) ((mt nm b).e tl sc) y p r) = true := h
  rw [Bool.and_eq_true, Bool.and_eq_true] at h'
  have e := bnot_and h'.1.1
  subst e
  have pa := (ha X Er W sc tl L A).e x h'.1.2
  have hr := h'.2
  obtain ⟨q1, q2⟩ : PE X (.BoolOp .And (y :: r) p) (rd P Er Tb Gv b W).v ∧ PW X (.BoolOp .And (y :: r) p) (rd P Er Tb Gv b W).t := by
    cases r with
    | nil =>
      have pb := (hb X Er W sc tl L A).e y hr
      exact ⟨pe_one pb.1, pw_and1 pb.2.1⟩
    | cons z r =>
      simp only [restM, Bool.and_eq_true] at hr
      have pb := (hb X Er W sc tl L A).e _ hr.2
      exact ⟨pb.1, pb.2.2.2 _ _ _ rfl⟩
  exact tst3 (pe_andT pa.1 q1) (PW.pt (pw_and pa.2.1 q2)) (fun _ _ _ _ => pw_and pa.2.1 q2)
theorem der_or {a b : E} (ha : DerAll nm kk P Tb Gv a) (hb : DerAll nm kk P Tb Gv b) : DerAll nm kk P Tb Gv (.or a b) := fun X Er W sc tl L A => der_no (fun _ => rfl) fun ex h => by
  cases ex <;> first | cases h | skip
  case BoolOp op es p =>
  rcases es with _ | ⟨x, _ | ⟨y, r⟩⟩ <;> first | cases h | skip
  have h' : (!(bnot op) && (mt nm a).e tl sc x && restM .Or (isOr b) ((mt nm b).e tl sc) y p r) = true := h
  rw [Bool.and_eq_true, Bool.and_eq_true] at h'
  have e := bnot_or h'.1.1
  subst e
  have pa := (ha X Er W sc tl L A).e x h'.1.2
  have hr := h'.2
  obtain ⟨q1, q2⟩ : PE X (.BoolOp .Or (y :: r) p) (rd P Er Tb Gv b W).v ∧ PW X (.BoolOp .Or (y :: r) p) (rd P Er Tb Gv b W).t := by
    cases r with
    | nil =>
      have pb := (hb X Er W sc tl L A).e y hr
      exact ⟨pe_one pb.1, pw_or1 pb.2.1⟩
    | cons z r =>
      simp only [restM, Bool.and_eq_true] at hr
      have pb := (hb X Er W sc tl L A).e _ hr.2
      exact ⟨pb.1, pb.2.2.2 _ _ _ rfl⟩
  exact tst3 (pe_orT pa.1 q1) (PW.pt (pw_or pa.2.1 q2)) (fun _ _ _ _ => pw_or pa.2.1 q2)
theorem der_not {a : E} (ha : DerAll nm kk P Tb Gv a) : DerAll nm kk P Tb Gv (.not a) := fun X Er W sc tl L A => der_no (fun _ => rfl) fun ex h => by
  cases ex <;> first | cases h | skip
  case UnaryOp o x p =>
  cases o <;> first | cases h | skip
  case Not =>
  have pa := (ha X Er W sc tl L A).e x h
  exact tst3 (pe_notT pa.1) (pt_not pa.2.1) (fun _ _ _ z => by cases z)
theorem der_ite {c a b : E} (hc : DerAll nm kk P Tb Gv c) (ha : DerAll nm kk P Tb Gv a) (hb : DerAll nm kk P Tb Gv b) : DerAll nm kk P Tb Gv (.ite c a b) := fun X Er W sc tl L A => der_no (fun _ => rfl) fun ex h => by
  cases ex <;> first | cases h | skip
  case IfExp x y z p =>
  have h' : ((mt nm c).e tl sc x && (mt nm a).e tl sc y && (mt nm b).e tl sc z) = true := h
  rw [Bool.and_eq_true, Bool.and_eq_true] at h'
  exact tst3 (pe_ifExp ((hc X Er W sc tl L A).e x h'.1.1).2.1 ((ha X Er W sc tl L A).e y h'.1.2).1 ((hb X Er W sc tl L A).e z h'.2).1) pt_no (fun _ _ _ _ => pw_no)
theorem der_tup {a : E} (ha : DerAll nm kk P Tb Gv a) : DerAll nm kk P Tb Gv (.tup a) := fun X Er W sc tl L A => der_no (fun _ => rfl) fun ex h => by
  cases ex <;> first | cases h | skip
  case Tuple es k p => exact val3 (pe_tup ((ha X Er W sc tl L A).a es h))
theorem der_lst {a : E} (ha : DerAll nm kk P Tb Gv a) : DerAll nm kk P Tb Gv (.lst a) := fun X Er W sc tl L A => der_no (fun _ => rfl) fun ex h => by
  cases ex <;> first | cases h | skip
  case List es p => exact val3 (pe_lst ((ha X Er W sc tl L A).a es h))
theorem der_idx {a i : E} (ha : DerAll nm kk P Tb Gv a) (hi : DerAll nm kk P Tb Gv i) : DerAll nm kk P Tb Gv (.idx a i) := fun X Er W sc tl L A => der_no (fun _ => rfl) fun ex h => by
  cases ex <;> first | cases h | skip
  case Subscript x y p =>
  have h' : ((mt nm a).e tl sc x && (mt nm i).e tl sc y) = true := h
  rw [Bool.and_eq_true] at h'
  exact val3 (pe_ix ix_seq ((ha X Er W sc tl L A).e x h'.1).1 ((hi X Er W sc tl L A).e y h'.2).1 (nos_of h'.2))
theorem plainB_of {x : Expr} {n : Str} {env : Env} (h : plainB x = true) : attributeBase x n env (eval x env) = eval x env := by
  cases x <;> first | rfl | cases h
theorem der_cnt {a b : E} (ha : DerAll nm kk P Tb Gv a) (hb : DerAll nm kk P Tb Gv b) : DerAll nm kk P Tb Gv (.cnt a b) := fun X Er W sc tl L A => der_no (fun _ => rfl) fun ex h => by
  cases ex <;> first | cases h | skip
  case Call fe es kw cpos =>
  cases fe <;> first | cases h | skip
  case Attribute x n apos =>
  rcases es with _ | ⟨y, _ | ⟨_, _⟩⟩ <;> first | cases h | skip
  rcases kw with _ | ⟨_, _⟩ <;> first | cases h | skip
  have h' : (decide (n = ("count" : Str)) && plainB x && (apos.endLine == cpos.line) && (mt nm a).e tl sc x && (mt nm b).e tl sc y) = true := h
  rw [Bool.and_eq_true, Bool.and_eq_true, Bool.and_eq_true, Bool.and_eq_true] at h'
  obtain ⟨⟨⟨⟨h1, h2⟩, h3⟩, h4⟩, h5⟩ := h'
  have e1 := of_decide_eq_true h1
  subst e1
  have hs : starEach [y] X.env = [(false, eval y X.env)] := star_cons (mt_ns h5)
  exact val3 (pe_bm PySem.F.plainAttrs_list PySem.F.slot_list_count PySem.F.type_list_count (mt_countD (by have := A.room.un; omega)) ((ha X Er W sc tl L A).e x h4).1 (pa_cons ((hb X Er W sc tl L A).e y h5).1 pa_nil hs) (plainB_of h2) (by rw [hs]; rfl) h3 hs (by rfl))
theorem part_of {lo : E} {X : Cx} {Er : Errs X.K P.X} {W : WX} {sc : Scope} {tl : Bool} (hl : Der nm X Er Tb Gv W sc tl lo) {l : Option Expr} (h : partM lo ((mt nm lo).e tl sc) l = true) : PO X l (rd P Er Tb Gv lo W).o := by
  cases l with
  | none =>
    cases lo <;> first | cases h | skip
    case refl => exact po_none
  | some l => exact (hl.e l h).2.2.1
theorem der_slc {a lo hi : E} (ha : DerAll nm kk P Tb Gv a) (hl : DerAll nm kk P Tb Gv lo) (hh : DerAll nm kk P Tb Gv hi) : DerAll nm kk P Tb Gv (.slc a lo hi) := fun X Er W sc tl L A => der_no (fun _ => rfl) fun ex h => by
  cases ex <;> first | cases h | skip
  case Subscript x y p =>
  cases y <;> first | cases h | skip
  case Slice l u s p2 =>
  cases s <;> first | cases h | skip
  have h' : ((mt nm a).e tl sc x && partM lo ((mt nm lo).e tl sc) l && partM hi ((mt nm hi).e tl sc) u) = true := h
  rw [Bool.and_eq_true, Bool.and_eq_true] at h'
  exact val3 (pe_slice sl_all ((ha X Er W sc tl L A).e x h'.1.1).1 (part_of (hl X Er W sc tl L A) h'.1.2) (part_of (hh X Er W sc tl L A) h'.2))
theorem der_call {f : Nat} {a : E} (ha : DerAll nm kk P Tb Gv a) : DerAll nm kk P Tb Gv (.call f a) := fun X Er W sc tl L A => der_no (fun _ => rfl) fun ex h => by
  cases ex <;> first | cases h | skip
  case Call fe es kw p =>
  cases fe <;> first | cases h | skip
  case Name x q =>
  cases kw <;> first | cases h | skip
  have h' : (decide (nm.fn f = some x) && gl sc x && (mt nm a).a tl sc es) = true := h
  rw [Bool.and_eq_true, Bool.and_eq_true] at h'
  obtain ⟨fa, fd, ps, k, hk, hm, hkp, F, hb⟩ := L.fns f x (of_decide_eq_true h'.1.1)
  obtain ⟨g1, g2⟩ := gl_of A.hsc h'.1.2
  have pa := (ha X Er W sc tl L A).a es h'.2
  cases es with
  | nil =>
    have e : (rd P Er Tb Gv a W).a = tNil := by
      cases a <;> first | rfl | cases h'.2
    refine val3 ?_
    show PE X _ (tCallS (spOf Er Tb (P.F f)) (WE W) (rd P Er Tb Gv a W).a)
    rw [e]
    exact pe_callS0 F (A.room.mono hk) g1 hm hkp hb (fun σ => passAt A.tk σ) g2
  | cons e es =>
    obtain ⟨s1, s2⟩ := mtA_star (env := X.env) (pos := p) a tl sc (e :: es) h'.2
    have sc1 : starEach (e :: es) X.env = (false, eval e X.env) :: starEach es X.env := star_cons (s2 e (by simp))
    rw [sc1] at s1
    exact val3 (pe_callS F (A.room.mono hk) g1 hm hkp hb (fun σ => passAt A.tk σ) pa g2 sc1 (by
      have s1' : (false || (backTo p (starEach es X.env)).any (·.1)) = false := s1
      simpa using s1'))
theorem der_blt {b : Blt} {a : E} (ha : DerAll nm kk P Tb Gv a) : DerAll nm kk P Tb Gv (.blt b a) := fun X Er W sc tl L A => der_no (fun _ => rfl) fun ex h => by
  cases ex <;> first | cases h | skip
  case Call fe es kw p =>
  cases fe <;> first | cases h | skip
  case Name x q =>
  cases kw with
  | cons _ _ => cases es <;> cases h
  | nil =>
  cases es <;> first | cases h | skip
  case cons e es =>
  have h' : (decide (bltN b = x) && bltT nm sc x && (mt nm a).a tl sc (e :: es)) = true := h
  rw [Bool.and_eq_true, Bool.and_eq_true] at h'
  have e1 : bltN b = x := of_decide_eq_true h'.1.1
  obtain ⟨g1, g2, g3, g4⟩ := bltT_of A.hsc h'.1.2
  have pa := (ha X Er W sc tl L A).a _ h'.2
  obtain ⟨s1, s2⟩ := mtA_star (env := X.env) (pos := p) a tl sc (e :: es) h'.2
  have sc1 : starEach (e :: es) X.env = (false, eval e X.env) :: starEach es X.env := star_cons (s2 e (by simp))
  rw [sc1] at s1
  have s1' : (false || (backTo p (starEach es X.env)).any (·.1)) = false := s1
  have s3 : (backTo p (starEach es X.env)).any (·.1) = false := by simpa using s1'
  have hbv : bootBuiltins x = some (bltV b) := by rw [← e1]; exact boot_blt b
  have cr := call_blt A.calm (by have := A.room.un; omega) b
  have hm := L.blt _ g3
  refine val3 ?_
  show PE X _ (tCB (rBlt X.K b) (rd P Er Tb Gv a W).a)
  cases b
  case abs => exact pe_callB cr g1 hm hbv pa g4 g2 sc1 s3
  case len => exact pe_callB cr g1 hm hbv pa g4 g2 sc1 s3
  case int => exact pe_callTy cr g1 hm hbv pa g4 g2 sc1 s3
  case tuple => exact pe_callTy cr g1 hm hbv pa g4 g2 sc1 s3
  case list => exact pe_callTy cr g1 hm hbv pa g4 g2 sc1 s3
  case max2 => exact pe_callB cr g1 hm hbv pa g4 g2 sc1 s3
  case min2 => exact pe_callB cr g1 hm hbv pa g4 g2 sc1 s3
  case sum => exact pe_callB cr g1 hm hbv pa g4 g2 sc1 s3
  case max3 => exact pe_callB cr g1 hm hbv pa g4 g2 sc1 s3
  case maxl => exact pe_callB cr g1 hm hbv pa g4 g2 sc1 s3
  case minl => exact pe_callB cr g1 hm hbv pa g4 g2 sc1 s3
  case minr => exact pe_callB cr g1 hm hbv pa g4 g2 sc1 s3
  case sorted => exact pe_callB cr g1 hm hbv pa g4 g2 sc1 s3
  case str => exact pe_callTy cr g1 hm hbv pa g4 g2 sc1 s3
  case isi => exact pe_callB cr g1 hm hbv pa g4 g2 sc1 s3
  case bool => exact pe_callTy cr g1 hm hbv pa g4 g2 sc1 s3
theorem der_nil : DerAll nm kk P Tb Gv .nil := fun X Er W sc tl L A => by
  refine ⟨fun ex h => ?_, fun es h => ?_, fun ex h => ?_⟩
  · cases h
  · cases es with
    | nil => exact pa_nil
    | cons e r => cases h
  · cases h
theorem der_cons {a b : E} (ha : DerAll nm kk P Tb Gv a) (hb : DerAll nm kk P Tb Gv b) : DerAll nm kk P Tb Gv (.cons a b) := fun X Er W sc tl L A => by
  refine ⟨fun ex h => ?_, fun es h => ?_, fun ex h => ?_⟩
  · cases h
  · cases es with
    | nil => cases h
    | cons x r =>
      have h' : ((mt nm a).e tl sc x && (mt nm b).a tl sc r) = true := h
      rw [Bool.and_eq_true] at h'
      exact pa_cons ((ha X Er W sc tl L A).e x h'.1).1 ((hb X Er W sc tl L A).a r h'.2) (star_cons (mt_ns h'.1))
  · have h' : ((mt nm a).e tl sc ex && (mt nm b).a tl sc []) = true := h
    rw [Bool.and_eq_true] at h'
    refine ⟨(rd P Er Tb Gv a W).v, ?_, ((ha X Er W sc tl L A).e ex h'.1).1⟩
    have e : (rd P Er Tb Gv b W).a = tNil := by
      cases b <;> first | rfl | cases h'.2
    show tCons (rd P Er Tb Gv a W).v (rd P Er Tb Gv b W).a = _
    rw [e]
theorem der_np : DerAll nm kk P Tb Gv .np := fun X Er W sc tl L A => by
  refine ⟨fun ex h => ?_, fun es h => ?_, fun ex h => ?_⟩ <;> cases h
theorem der_newc {a : E} (ha : DerAll nm kk P Tb Gv a) : DerAll nm kk P Tb Gv (.newc a) := fun X Er W sc tl L A => der_no (fun _ => rfl) fun ex h =>
  tst3 ((ha X Er W sc tl L A).e ex h).1 pt_no (fun _ _ _ _ => pw_no)
theorem der_scope {a : E} (ha : DerAll nm kk P Tb Gv a) : DerAll nm kk P Tb Gv (.scope a) := fun X Er W sc tl L A => der_no (fun _ => rfl) fun ex h =>
  tst3 ((ha X Er W sc tl L A).e ex h).1 pt_no (fun _ _ _ _ => pw_no)
theorem der_lend {i : Nat} {a : E} (ha : DerAll nm kk P Tb Gv a) : DerAll nm kk P Tb Gv (.lend i a) := fun X Er W sc tl L A => der_no (fun _ => rfl) fun ex h =>
  tst3 ((ha X Er W sc tl L A).e ex h).1 ((ha X Er W sc tl L A).e ex h).2.1 ((ha X Er W sc tl L A).e ex h).2.2.2
theorem der_told {hs : List (Str × Str)} {a : E} (ha : DerAll nm kk P Tb Gv a) : DerAll nm kk P Tb Gv (.told hs a) := fun X Er W sc tl L A => der_no (fun _ => rfl) fun ex h => by
  cases ex <;> first | cases h | skip
  case Call fe es kw p =>
  cases fe <;> first | cases h | skip
  case Name x q =>
  rcases es with _ | ⟨l, _ | ⟨_, _⟩⟩ <;> first | cases h | skip
  · cases l <;> first | cases h | skip
    case Lambda ps body lsc lp =>
    cases kw <;> first | cases h | skip
    have h' : ((tl && nm.lw) && decide (hs = nm.hs) && decide (x = nm.told) && gl sc x && noArgs ps && LamX.lamSB sc lsc && (mt nm a).e false lsc body) = true := h
    rw [Bool.and_eq_true, Bool.and_eq_true, Bool.and_eq_true, Bool.and_eq_true, Bool.and_eq_true, Bool.and_eq_true] at h'
    obtain ⟨⟨⟨⟨⟨⟨h1, h2⟩, h3⟩, h4⟩, h5⟩, h6⟩, h7⟩ := h'
    have e1 : hs = nm.hs := of_decide_eq_true h2
    have e2 : x = nm.told := of_decide_eq_true h3
    subst e1 e2
    rw [Bool.and_eq_true] at h1
    refine val3 (A.told h1.1 h1.2 (fun E => (rd P Er Tb Gv a fun cls d _ H => E cls d H).v) ps body lsc q lp p h5 h6 h4 fun A' outer s H E f c' hr => ?_)
    have L' : Lib P (K := (LamX.lamCx X A' outer s H E lsc f c').K) Er Tb Gv nm kk (LamX.lamCx X A' outer s H E lsc f c').prog (LamX.lamCx X A' outer s H E lsc f c').w (LamX.lamCx X A' outer s H E lsc f c').mg (LamX.lamCx X A' outer s H E lsc f c').base := L
    exact ((ha (LamX.lamCx X A' outer s H E lsc f c') Er (fun cls d _ H => E cls d H) lsc false L' ⟨A.N, A.nd, rfl, rfl, takes_of rfl rfl rfl rfl, hr, (fun z => by cases z), fun z => by cases z⟩).e body h7).1
  · cases l <;> first | cases h | skip
theorem lc_parts {vs : List Nat} {g : G} {k : IK} {it c e : E} (hi : DerAll nm kk P Tb Gv it) (hc : DerAll nm kk P Tb Gv c) (he : DerAll nm kk P Tb Gv e) {X : Cx} {Er : Errs X.K P.X} {W : WX} {sc : Scope} {tl : Bool} (L : Lib P Er Tb Gv nm kk X.prog X.w X.mg X.base) (A : Amb nm kk Tb Er.xv X sc W tl)
    {elt tg iter : Expr} {ifs : List Expr} {csc : Scope} {pos : Pos} (h : (mt nm (.lc vs g k it c e)).e tl sc (.ListComp elt [⟨tg, iter, ifs, 0⟩] csc pos) = true) :
    PI X tg iter (rI (K := X.K) k (rd P Er Tb Gv it W).a) ∧ BlkOk X.N X.env.scope csc (ownOf nm vs) ∧ (ownOf nm vs).map (·.2) = vs ∧
    (∀ (s : Shared) (H : Hp) (C : Addr) (cl : List (Str × Addr)) (fp : List Addr), PG (X.blk s H csc (compEnvC csc cl C X.env) fp) tg (gK X.K g)) ∧
    (∀ (s : Shared) (H : Hp) (C : Addr) (cl : List (Str × Addr)) (fp : List Addr), PTs (X.blk s H csc (compEnvC csc cl C X.env) fp) ifs (rd P Er Tb Gv c W0).t) ∧
    (∀ (s : Shared) (H : Hp) (C : Addr) (cl : List (Str × Addr)) (fp : List Addr), PE (X.blk s H csc (compEnvC csc cl C X.env) fp) elt (rd P Er Tb Gv e W0).v) := by
  have h' : (blkC nm.N sc csc (ownOf nm vs) && mtG nm csc (relS csc sc) g tg && mtI nm k ((mt nm it).a tl sc) tg sc iter && ifsM c ((mt nm c).e false (relS csc sc)) ifs && (mt nm e).e false (relS csc sc) elt) = true := h
  rw [Bool.and_eq_true, Bool.and_eq_true, Bool.and_eq_true, Bool.and_eq_true] at h'
  obtain ⟨⟨⟨⟨h1, h2⟩, h3⟩, h4⟩, h5⟩ := h'
  have amb : ∀ (s : Shared) (H : Hp) (C : Addr) (cl : List (Str × Addr)) (fp : List Addr), Amb nm kk Tb Er.xv (X.blk s H csc (compEnvC csc cl C X.env) fp) (relS csc sc) W0 false := fun s H C cl fp =>
    ⟨A.N, A.nd, A.calm, by rw [← A.hsc]; rfl, takes0, A.room, (fun z => by cases z), fun z => by cases z⟩
  have D := hi X Er W sc tl L A
  refine ⟨pi_of A.hsc L.blt D.a D.one h3, by rw [A.N, A.hsc]; exact blkOk_by h1, ?_, fun s H C cl fp => ?_, fun s H C cl fp => ?_, fun s H C cl fp => ?_⟩
  · unfold ownOf
    rw [List.map_map]
    exact List.map_id' vs
  · exact pg_of (X := X.blk s H csc (compEnvC csc cl C X.env) fp) (cs := csc) (fun x h => h) A.calm A.N A.nd (amb s H C cl fp).hsc h2
  · have L' : Lib P (K := (X.blk s H csc (compEnvC csc cl C X.env) fp).K) Er Tb Gv nm kk X.prog X.w X.mg X.base := L
    have Dc := hc (X.blk s H csc (compEnvC csc cl C X.env) fp) Er W0 (relS csc sc) false L' (amb s H C cl fp)
    rcases ifs with _ | ⟨i, _ | ⟨_, _⟩⟩
    · cases c <;> first | cases h4 | skip
      case refl => exact pts_nil
    · exact pts_one (Dc.e i h4).2.1
    · cases h4
  · have L' : Lib P (K := (X.blk s H csc (compEnvC csc cl C X.env) fp).K) Er Tb Gv nm kk X.prog X.w X.mg X.base := L
    exact ((he (X.blk s H csc (compEnvC csc cl C X.env) fp) Er W0 (relS csc sc) false L' (amb s H C cl fp)).e elt h5).1
theorem lc_iter {vs : List Nat} {g : G} {k : IK} {it c e : E} {tl : Bool} {sc : Scope} {elt tg iter : Expr} {ifs : List Expr} {csc : Scope} {pos : Pos} (h : (mt nm (.lc vs g k it c e)).e tl sc (.ListComp elt [⟨tg, iter, ifs, 0⟩] csc pos) = true) : mtI nm k ((mt nm it).a tl sc) tg sc iter = true := by
  have h' : (blkC nm.N sc csc (ownOf nm vs) && mtG nm csc (relS csc sc) g tg && mtI nm k ((mt nm it).a tl sc) tg sc iter && ifsM c ((mt nm c).e false (relS csc sc)) ifs && (mt nm e).e false (relS csc sc) elt) = true := h
  rw [Bool.and_eq_true, Bool.and_eq_true, Bool.and_eq_true, Bool.and_eq_true] at h'
  exact h'.1.1.2
theorem lc_form {vs : List Nat} {g : G} {k : IK} {it c e : E} {tl : Bool} {sc : Scope} {ex : Expr} (h : (mt nm (.lc vs g k it c e)).e tl sc ex = true) : ∃ elt tg iter ifs csc pos, ex = .ListComp elt [⟨tg, iter, ifs, 0⟩] csc pos := by
  simp only [mt, Mt.ex] at h
  split at h
  · exact ⟨_, _, _, _, _, _, rfl⟩
  · cases h
theorem der_lc {vs : List Nat} {g : G} {k : IK} {it c e : E} (hi : DerAll nm kk P Tb Gv it) (hc : DerAll nm kk P Tb Gv c) (he : DerAll nm kk P Tb Gv e) : DerAll nm kk P Tb Gv (.lc vs g k it c e) := fun X Er W sc tl L A => der_no (fun _ => rfl) fun ex h => by
  obtain ⟨elt, tg, iter, ifs, csc, p, e1⟩ := lc_form h
  subst e1
  obtain ⟨q1, q2, q3, q4, q5, q6⟩ := lc_parts hi hc he L A h
  have := pe_lc (pos := p) A.calm (by rw [A.N]; exact A.nd) q1 q2 q4 q5 q6 (fold_of (lc_iter h))
  rw [q3] at this
  exact val3 this
theorem gx_form {b : Bool} {vs : List Nat} {g : G} {k : IK} {it c e : E} {tl : Bool} {sc : Scope} {ex : Expr} (h : (mt nm (.gx b vs g k it c e)).e tl sc ex = true) : ∃ x p1 elt tg iter ifs csc gpos pos, ex = .Call (.Name x p1) [.GeneratorExp elt [⟨tg, iter, ifs, 0⟩] csc gpos] [] pos := by
  simp only [mt, Mt.ex] at h
  split at h
  · exact ⟨_, _, _, _, _, _, _, _, _, rfl⟩
  · cases h
theorem gxS_by {X : Cx} {csc : Scope} {own : List (Str × Nat)} (hb : BlkOk X.N X.env.scope csc own) (h : gxSB csc = true) : GX.GxS X csc own := by
  unfold gxSB at h
  simp only [Bool.and_eq_true, Bool.not_eq_true', List.all_eq_true, decide_eq_true_eq, decide_eq_false_iff_not] at h
  exact ⟨hb, h.1.1, h.1.2, h.2⟩
theorem der_gx {b : Bool} {vs : List Nat} {g : G} {k : IK} {it c e : E} (hi : DerAll nm kk P Tb Gv it) (hc : DerAll nm kk P Tb Gv c) (he : DerAll nm kk P Tb Gv e) : DerAll nm kk P Tb Gv (.gx b vs g k it c e) := fun X Er W sc tl L A => der_no (fun _ => rfl) fun ex h => by
  obtain ⟨x, p1, elt, tg, iter, ifs, csc, gpos, pos, e1⟩ := gx_form h
  subst e1
  have h' : ((tl && nm.gx && decide (x = GX.gxName b) && bltT nm sc x && notList iter) && (blkC nm.N sc csc (ownOf nm vs) && gxSB csc && mtG nm csc csc g tg && mtI nm k ((mt nm it).a tl sc) tg sc iter &&
        ifsM c ((mt nm c).e false csc) ifs && (mt nm e).e false csc elt)) = true := h
  rw [Bool.and_eq_true] at h'
  obtain ⟨h1, h2⟩ := h'
  rw [Bool.and_eq_true, Bool.and_eq_true, Bool.and_eq_true, Bool.and_eq_true] at h1
  obtain ⟨⟨⟨⟨t1, t2⟩, t3⟩, t4⟩, t5⟩ := h1
  rw [Bool.and_eq_true, Bool.and_eq_true, Bool.and_eq_true, Bool.and_eq_true, Bool.and_eq_true] at h2
  obtain ⟨⟨⟨⟨⟨b1, b2⟩, b3⟩, b4⟩, b5⟩, b6⟩ := h2
  have ex' : x = GX.gxName b := of_decide_eq_true t3
  subst ex'
  obtain ⟨g1, g2, g3, g4⟩ := bltT_of A.hsc t4
  obtain ⟨hroom, cc, PP, TB, hcode, hm, hu⟩ := A.gx t1 t2
  have D := hi X Er W sc tl L A
  have S := gxS_by (X := X) (csc := csc) (own := ownOf nm vs) (by rw [A.N, A.hsc]; exact blkOk_by b1) b2
  have ev : (ownOf nm vs).map (·.2) = vs := by
    unfold ownOf
    rw [List.map_map]
    exact List.map_id' vs
  have amb : ∀ (Ar : Around) (s : Shared) (H : Hp) (C : Addr) (code : Value) (fp : List Addr), Room kk Ar → Amb nm kk Tb Er.xv (GX.gCx X Ar s H (GX.gEnv X csc C code) fp) csc W0 false := fun Ar s H C code fp hr =>
    ⟨A.N, A.nd, rfl, rfl, takes0, hr, (fun z => by cases z), fun z => by cases z⟩
  have nc : ∀ y : Str, (csc.names.lookup y == some NameKind.cell) = true → False := fun y hy => S.cell _ (PySem.mem_of_lookup (by simpa using hy : csc.names.lookup y = some NameKind.cell)) rfl
  have gf : ∀ v, genFold iter X.env v = pure v := fun v => by
    have := fold_of (env := X.env) b4 v
    unfold genFold
    cases iter <;> first | exact this | cases t5
  have := GX.pe_gx (pos := pos) (p := p1) (gpos := gpos) (T := Tb) (k := kk) (g := gK X.K g) (tt := (rd P Er Tb Gv c W0).t) (te := (rd P Er Tb Gv e W0).v) (ifs := ifs) g1 (L.blt _ g3) (by rw [A.N]; exact A.nd) hroom TB hcode S hm hu (pi_of A.hsc L.blt D.a D.one b4) gf
    (fun Ar s H C code fp => pg_of (X := GX.gCx X Ar s H (GX.gEnv X csc C code) fp) (cs := csc) (fun y hy => (nc y hy).elim) rfl A.N A.nd rfl b3)
    (fun Ar s H C code fp hr => by
      have L' : Lib P (K := (GX.gCx X Ar s H (GX.gEnv X csc C code) fp).K) Er Tb Gv nm kk X.prog X.w X.mg X.base := L
      have Dc := hc (GX.gCx X Ar s H (GX.gEnv X csc C code) fp) Er W0 csc false L' (amb Ar s H C code fp hr)
      rcases ifs with _ | ⟨i, _ | ⟨_, _⟩⟩
      · cases c <;> first | cases b5 | skip
        case refl => exact pts_nil
      · exact pts_one (Dc.e i b5).2.1
      · cases b5)
    (fun Ar s H C code fp hr => by
      have L' : Lib P (K := (GX.gCx X Ar s H (GX.gEnv X csc C code) fp).K) Er Tb Gv nm kk X.prog X.w X.mg X.base := L
      exact ((he (GX.gCx X Ar s H (GX.gEnv X csc C code) fp) Er W0 csc false L' (amb Ar s H C code fp hr)).e elt b6).1)
  rw [ev] at this
  exact val3 this
theorem der : ∀ e : E, DerAll nm kk P Tb Gv e
  | .var _ => der_var
  | .int _ => der_int
  | .bl _ => der_bl
  | .non => der_non
  | .str _ => der_str
  | .ty _ => der_ty
  | .glob _ => der_glob
  | .bin _ a b => der_bin (der a) (der b)
  | .neg a => der_neg (der a)
  | .cmp _ a b => der_cmp (der a) (der b)
  | .chain _ _ a b c => der_chain (der a) (der b) (der c)
  | .and a b => der_and (der a) (der b)
  | .or a b => der_or (der a) (der b)
  | .not a => der_not (der a)
  | .ite c a b => der_ite (der c) (der a) (der b)
  | .nil => der_nil
  | .cons a b => der_cons (der a) (der b)
  | .tup a => der_tup (der a)
  | .lst a => der_lst (der a)
  | .idx a i => der_idx (der a) (der i)
  | .cnt a b => der_cnt (der a) (der b)
  | .slc a lo hi => der_slc (der a) (der lo) (der hi)
  | .np => der_np
  | .call _ a => der_call (der a)
  | .blt _ a => der_blt (der a)
  | .lc _ _ _ it c e => der_lc (der it) (der c) (der e)
  | .gx _ _ _ _ it c e => der_gx (der it) (der c) (der e)
  | .newc a => der_newc (der a)
  | .scope a => der_scope (der a)
  | .lend _ a => der_lend (der a)
  | .told _ a => der_told (der a)
end
end Mini

namespace Mini
open PySem PySem.Spec PyProof.Rows L2

structure Ms where
  s : Bool → Scope → Stmt → Bool
  b : Bool → Scope → List Stmt → Bool
def Ms.st (f : Bool → Scope → Stmt → Bool) : Ms where
  s := f
  b := fun _ _ _ => false
def locB (sc : Scope) (x : Str) : Bool := decide (sc.names.lookup x = some .local) || decide (sc.names.lookup x = some .cell)
def mtIsS (nm : Nm) (sc : Scope) : List Nat → List Expr → Bool
  | [], [] => true
  | i :: is, .Name x _ :: es => decide (nm.N[i]? = some x) && locB sc x && mtIsS nm sc is es
  | _, _ => false
def mtGS (nm : Nm) (sc : Scope) : G → Expr → Bool
  | .name i, .Name x _ => decide (nm.N[i]? = some x) && locB sc x
  | .tup is, .Tuple es _ _ => mtIsS nm sc is es
  | _, _ => false
def swB (sc : Scope) (v tg : Expr) : Bool := match v, tg with
  | .ListComp e g s p, .Name t q => decide (sc.names.lookup t = some .local) && q.line == p.line && !(s.names.any fun (n, k) => n == t && (k == .local || k == .cell))
  | _, _ => false
def compE : Expr → Bool
  | .SetComp .. => true
  | .DictComp .. => true
  | _ => false
def lcE : Expr → Bool
  | .ListComp .. => true
  | _ => false
def isLc : E → Bool
  | .lc .. => true
  | _ => false
def starB : Expr → Bool
  | .Starred .. => true
  | _ => false
def swN (sc : Scope) (line : Nat) : List Expr → List Str
  | [] => []
  | .Name id pos :: r => if decide (sc.names.lookup id = some .local) && pos.line == line then id :: swN sc line r else swN sc line r
  | _ :: r => swN sc line r
def swT (sc : Scope) (ts vs : List Expr) : Option (Option (List Str)) :=
  if !(ts.length == 2 || ts.length == 3) || vs.length != ts.length then some none
  else if vs.any starB then some none
  else if (swN sc ((ts.head?.map (·.pos.line)).getD 0) ts).length != ts.length || (swN sc ((ts.head?.map (·.pos.line)).getD 0) ts).eraseDups.length != (swN sc ((ts.head?.map (·.pos.line)).getD 0) ts).length then some none
  else if vs.all (foldedForSure 8) then some none
  else if vs.all (constantsAlone 8) then none
  else some (some (swN sc ((ts.head?.map (·.pos.line)).getD 0) ts))
def swOk (sc : Scope) (tg v : Expr) : Bool := match tg, v with
  | .Name .., _ => true
  | .Tuple ts _ _, .Tuple vs _ _ => decide (swT sc ts vs = some none)
  | .Tuple .., _ => true
  | _, _ => false
def namesE : List Expr → List Str
  | [] => []
  | .Name x _ :: r => x :: namesE r
  | _ :: r => namesE r
def isPar (sc : Scope) (ts vs : List Expr) : Bool := decide (swT sc ts vs = some (some (namesE ts)))
def listM (nm : Nm) (sc : Scope) (i : Nat) (name : Str) (f : List Expr → Bool) : Stmt → Bool
  | .Expr (.Call (.Attribute (.Name x p) n apos) es [] cpos) _ => decide (nm.N[i]? = some x) && vis sc x && !(x == dbg) && !(x == ("__classdict__" : Str)) && decide (n = name) && (apos.endLine == cpos.line) && f es
  | _ => false
def raisM (rs : List Str) (sc : Scope) (c : Str) : Stmt → Bool
  | .Raise (some (.Call (.Name x p) [.Constant (.str _) _ _] [] _)) none _ => decide (x = c) && rs.contains c && gl sc x
  | _ => false
def mtS (nm : Nm) (rs : List Str) : S → Ms
  | .skip => { s := fun _ _ _ => false, b := fun _ _ l => l.isEmpty }
  | .seq a b => { s := fun _ _ _ => false, b := fun tl sc l => match l with
    | x :: r => (mtS nm rs a).s tl sc x && (mtS nm rs b).b tl sc r
    | [] => false }
  | .frz _ a => mtS nm rs a
  | .pass => .st fun _ _ st => match st with
    | .Pass _ => true
    | _ => false
  | .expr e => .st fun tl sc st => match st with
    | .Expr v _ => (mt nm e).e tl sc v && !(compE v) && !(lcE v)
    | _ => false
  | .asg g e => .st fun tl sc st => match st with
    | .Assign [tg] v _ => (mt nm e).e tl sc v && mtGS nm sc g tg && !(compE v) && (!(swB sc v tg) || isLc e) && swOk sc tg v
    | _ => false
  | .asgO i e => .st fun tl sc st => match st with
    | .Assign [tg] v _ => (mt nm e).e tl sc v && mtGS nm sc (.name i) tg && !(compE v) && (!(swB sc v tg) || isLc e) && swOk sc tg v
    | _ => false
  | .par is a => .st fun tl sc st => match st with
    | .Assign [.Tuple ts _ _] (.Tuple vs _ _) _ => decide (ts.length = 2 ∨ ts.length = 3) && decide ((is.map (·.1)).Nodup) && mtIs nm sc (is.map (·.1)) ts && isPar sc ts vs && (mt nm a).a tl sc vs
    | _ => false
  | .asgT is a => .st fun tl sc st => match st with
    | .Assign [tg] (.Tuple vs k p) _ => (mt nm a).a tl sc vs && mtGS nm sc (.tup (is.map (·.1))) tg && !(swB sc (.Tuple vs k p) tg) && swOk sc tg (.Tuple vs k p)
    | _ => false
  | .setx o ix e => .st fun tl sc st => match st with
    | .Assign [.Subscript x y _] v _ => (mt nm e).e tl sc v && (mt nm o).e tl sc x && (mt nm ix).e tl sc y
    | _ => false
  | .aug i o e => .st fun tl sc st => match st with
    | .AugAssign (.Name x _) p v _ => decide (o = p) && decide (nm.N[i]? = some x) && locB sc x && (mt nm e).e tl sc v
    | _ => false
  | .app i e => .st fun tl sc st => listM nm sc i "append" (fun es => match es with
    | [x] => (mt nm e).e tl sc x
    | _ => false) st
  | .ext i e => .st fun tl sc st => listM nm sc i "extend" (fun es => match es with
    | [x] => (mt nm e).e tl sc x
    | _ => false) st
  | .pop i => .st fun _ sc st => listM nm sc i "pop" (fun es => es.isEmpty) st
  | .ite c a b => .st fun tl sc st => match st with
    | .If x y z _ => (mt nm c).e tl sc x && (mtS nm rs a).b tl sc y && (mtS nm rs b).b tl sc z
    | _ => false
  | .whl c b => .st fun tl sc st => match st with
    | .While x y [] _ => (mt nm c).e tl sc x && (mtS nm rs b).b tl sc y
    | _ => false
  | .for g k it b => .st fun tl sc st => match st with
    | .For tg iter y [] _ => mtGS nm sc g tg && mtI nm k ((mt nm it).a tl sc) tg sc iter && (mtS nm rs b).b tl sc y
    | _ => false
  | .ret e => .st fun tl sc st => match st with
    | .Return (some v) _ => (mt nm e).e tl sc v
    | _ => false
  | .retN => .st fun _ _ st => match st with
    | .Return none _ => true
    | _ => false
  | .rais c => .st fun _ sc st => raisM rs sc c st
  | .raisP _ _ => .st fun _ _ _ => false
  | .brk => .st fun _ _ st => match st with
    | .Break _ => true
    | _ => false
  | .cont => .st fun _ _ st => match st with
    | .Continue _ => true
    | _ => false
termination_by structural s => s
structure Rs (K : PySem.W.Frag) (mg : Str → Option Value) (c : Str) (v : Value) : Prop where
  ex : ∃ C, v = .ref C ∧ mg c = some (.ref C) ∧ PySem.W.keepIn K (.ref C) = true ∧ PySem.W.excIn K C [.type "ValueError", .type "Exception", .type "BaseException", .type "object"] "ValueError.__new__" = true ∧
    PySem.W.subIn K (.ref C) (.type "BaseException") = some true ∧ PySem.W.typeIn K (.ref C) = some (.type "type")
structure AmbS (nm : Nm) (kk : Nat) (Tb : List (Addr × Str)) (xv : Str → Value) (rs : List Str) (X : Cx) (sc : Scope) (W : WX) (tl : Bool) : Prop extends Amb nm kk Tb xv X sc W tl where
  fn : ∀ x, X.fn x = true
  po : PassesOwn (model X.prog X.w) X.A X.env X.xe
  kind : sc.kind = .function
  rs : ∀ c, c ∈ rs → Rs X.K X.mg c (xv c)
section
variable {nm : Nm} {kk : Nat} {P : Par} {Tb : List (Addr × Str)} {Gv : Nat → V} {rs : List Str} {X : Cx} {sc : Scope}
theorem locB_of {x : Str} (hs : X.env.scope = sc) (h : locB sc x = true) : Loc X.env.scope x := by
  unfold locB at h
  rw [Bool.or_eq_true] at h
  rw [hs]
  exact h.elim (fun h => .inl (of_decide_eq_true h)) fun h => .inr (of_decide_eq_true h)
theorem pgs_ofS {is : List Nat} {es : List Expr} (hf : ∀ x, X.fn x = true) (hN : X.N = nm.N) (nd : nm.N.Nodup) (hs : X.env.scope = sc) (h : mtIsS nm sc is es = true) :
    PGs X es (gNames is) ∧ (assignEach es X.env).length = is.length ∧ (assignEach es X.env).findIdx? (·.1) = none ∧ es.length = is.length := by
  induction is generalizing es with
  | nil =>
    cases es with
    | nil => exact ⟨pgs_nil, rfl, rfl, rfl⟩
    | cons e r => cases h
  | cons i is ih =>
    cases es with
    | nil => cases h
    | cons e r =>
      cases e <;> first | cases h | skip
      case Name x p =>
      have h' : (decide (nm.N[i]? = some x) && locB sc x && mtIsS nm sc is r) = true := h
      rw [Bool.and_eq_true, Bool.and_eq_true] at h'
      obtain ⟨h1, h2, h3, h4⟩ := ih h'.2
      refine ⟨pgs_cons (pg_name (by rw [hN]; exact nd) (isN_ hN h'.1.1) (locB_of hs h'.1.2) (.inl (hf x))) h1 (by rfl), ?_, ?_, ?_⟩
      · show (assignEach r X.env).length + 1 = _
        rw [h2]; rfl
      · show ((false, assign (.Name x p) X.env) :: assignEach r X.env).findIdx? (·.1) = none
        rw [List.findIdx?_cons, h3]
        rfl
      · rw [List.length_cons, List.length_cons, h4]
theorem pg_ofS {g : G} {tg : Expr} (hf : ∀ x, X.fn x = true) (hc : X.calm = true) (hN : X.N = nm.N) (nd : nm.N.Nodup) (hs : X.env.scope = sc) (h : mtGS nm sc g tg = true) : PG X tg (gK X.K g) := by
  cases g with
  | name i =>
    cases tg <;> first | cases h | skip
    case Name x p =>
    have h' : (decide (nm.N[i]? = some x) && locB sc x) = true := h
    rw [Bool.and_eq_true] at h'
    exact pg_name (by rw [hN]; exact nd) (isN_ hN h'.1) (locB_of hs h'.2) (.inl (hf x))
  | tup is =>
    cases tg <;> first | cases h | skip
    case Tuple es k p =>
    obtain ⟨h1, h2, h3, _⟩ := pgs_ofS hf hN nd hs h
    exact pg_or (pg_tup hc h1 h2 h3) (pg_lst hc h1 h2 h3)
theorem bk_of {env : Env} (hs : env.scope = sc) (hk : sc.kind = .function) : env.blockKind = .function := by
  subst hs
  unfold Env.blockKind; rw [hk]; rfl
theorem swB_of {env : Env} (hs : env.scope = sc) (hk : sc.kind = .function) {v tg : Expr} {l : Nat} (hc : compE v = false) (h : swB sc v tg = false) (ht : mtGS nm sc (.name 0) tg = true ∨ (∃ x p, tg = .Name x p) ∨ ∃ es k p, tg = .Tuple es k p) : swapsWith v (some tg) l env = pure false := by
  have hb := bk_of hs hk
  subst hs
  cases v
  case ListComp e g s p =>
   have ht' : (∃ x p, tg = .Name x p) ∨ ∃ es k p, tg = .Tuple es k p := by
     rcases ht with ht | ht
     · cases tg <;> first | cases ht | skip
       case Name x q => exact .inl ⟨_, _, rfl⟩
     · exact ht
   rcases ht' with ⟨x, q, rfl⟩ | ⟨es, k, q, rfl⟩
   · have h' : (decide (env.scope.names.lookup x = some .local) && q.line == p.line && !(s.names.any fun (n, k) => n == x && (k == .local || k == .cell))) = false := h
     unfold swapsWith
     simp only [hb, Expr.pos]
     have e : (env.kindOf x == some NameKind.local) = decide (env.scope.names.lookup x = some .local) := by
       show (env.scope.names.lookup x == some NameKind.local) = _
       cases env.scope.names.lookup x with
       | none => rfl
       | some k => cases k <;> rfl
     rw [e]
     show pure ((ScopeKind.function == ScopeKind.function) && _ && _ && _) = _
     have e2 : (ScopeKind.function == ScopeKind.function) = true := rfl
     rw [e2, Bool.true_and, h']
   · rfl
  all_goals first | rfl | cases hc
theorem any_of {f g : Expr → Bool} (l : List Expr) (h : ∀ x, f x = g x) : l.any f = l.any g := by rw [show f = g from funext h]
theorem swN_of {f : Expr → Option Str} {line : Nat} (ts : List Expr) (h1 : ∀ id pos, f (.Name id pos) = if (decide (sc.names.lookup id = some .local) && pos.line == line) = true then some id else none) (h2 : ∀ x, (∀ id pos, x ≠ .Name id pos) → f x = none) : ts.filterMap f = swN sc line ts := by
  induction ts with
  | nil => rfl
  | cons t ts ih =>
    rw [List.filterMap_cons, ih]
    cases t with
    | Name id pos =>
      rw [h1]
      show _ = if (decide (sc.names.lookup id = some .local) && pos.line == line) = true then id :: swN sc line ts else swN sc line ts
      by_cases hq : (decide (sc.names.lookup id = some .local) && pos.line == line) = true
      · rw [if_pos hq, if_pos hq]
      · rw [if_neg hq, if_neg hq]
    | _ => rw [h2 _ (fun _ _ z => by cases z)]; rfl
theorem kl_of {env : Env} (hs : env.scope = sc) (id : Str) : (env.kindOf id == some NameKind.local) = decide (sc.names.lookup id = some .local) := by
  subst hs
  show (env.scope.names.lookup id == some NameKind.local) = _
  cases env.scope.names.lookup id with
  | none => rfl
  | some k => cases k <;> rfl
theorem swT_of {env : Env} (hs : env.scope = sc) (hk : sc.kind = .function) {ts vs : List Expr} {k k2 : Nat} {p p2 : Pos} {r : Option (List Str)} (h : swT sc ts vs = some r) : swappedStores [.Tuple ts k p] (.Tuple vs k2 p2) env = pure r := by
  have hb := bk_of hs hk
  unfold swT at h
  unfold swappedStores
  simp only [hb]
  have e2 : (ScopeKind.function != ScopeKind.function) = false := rfl
  rw [e2, Bool.or_false]
  rw [any_of (g := starB) vs (by intro x; cases x <;> rfl)]
  rw [swN_of (sc := sc) (line := (ts.head?.map (·.pos.line)).getD 0) ts (by intro id pos; simp only [kl_of hs]) (by intro x hx; cases x <;> first | rfl | exact absurd rfl (hx _ _))]
  split at h
  · rename_i hq
    cases h
    rw [if_pos hq]
  · rename_i hq
    rw [if_neg hq]
    split at h
    · rename_i hq
      cases h
      rw [if_pos hq]
    · rename_i hq
      rw [if_neg hq]
      split at h
      · rename_i hq
        cases h
        rw [if_pos hq]
      · rename_i hq
        rw [if_neg hq]
        split at h
        · rename_i hq
          cases h
          rw [if_pos hq]
        · rename_i hq
          rw [if_neg hq]
          split at h
          · cases h
          · rename_i hq
            cases h
            rw [if_neg hq]
theorem swOk_of {env : Env} (hs : env.scope = sc) (hk : sc.kind = .function) {tg v : Expr} (h : swOk sc tg v = true) : swappedStores [tg] v env = pure none := by
  cases tg <;> first | cases h | skip
  case Name.refl => cases v <;> rfl
  case Tuple ts k p =>
  cases v <;> first | rfl | skip
  case Tuple vs k2 p2 => exact swT_of hs hk (of_decide_eq_true h)
end
end Mini

namespace Mini
open PySem PySem.Spec PyProof.Rows L2
structure DerS (nm : Nm) (rs : List Str) {P : Par} (X : Cx) (Er : Errs X.K P.X) (Tb : List (Addr × Str)) (Gv : Nat → V) (W : WX) (sc : Scope) (tl : Bool) (m : S) : Prop where
  s : ∀ st, (mtS nm rs m).s tl sc st = true → PS X st (rdS P Er Tb Gv W m)
  b : ∀ l, (mtS nm rs m).b tl sc l = true → PSs X l (rdS P Er Tb Gv W m)
section
variable {nm : Nm} {kk : Nat} {P : Par} {Tb : List (Addr × Str)} {Gv : Nat → V} {rs : List Str}
def DerSAll (nm : Nm) (kk : Nat) (P : Par) (Tb : List (Addr × Str)) (Gv : Nat → V) (rs : List Str) (m : S) : Prop := ∀ (X : Cx) (Er : Errs X.K P.X) (W : WX) (sc : Scope) (tl : Bool), Lib P Er Tb Gv nm kk X.prog X.w X.mg X.base → AmbS nm kk Tb Er.xv rs X sc W tl → DerS nm rs X Er Tb Gv W sc tl m
theorem derS_st {m : S} {X : Cx} {Er : Errs X.K P.X} {W : WX} {sc : Scope} {tl : Bool} (h : ∀ l, (mtS nm rs m).b tl sc l = false) (hs : ∀ st, (mtS nm rs m).s tl sc st = true → PS X st (rdS P Er Tb Gv W m)) : DerS nm rs X Er Tb Gv W sc tl m :=
  ⟨hs, fun l z => absurd (z.symm.trans (h l)) (by decide)⟩
variable {X : Cx} {Er : Errs X.K P.X} {W : WX} {sc : Scope} {tl : Bool}
theorem asg_ok {e : E} {g : G} {tg v : Expr} {pos : Pos} (L : Lib P Er Tb Gv nm kk X.prog X.w X.mg X.base) (A : AmbS nm kk Tb Er.xv rs X sc W tl)
    (h : ((mt nm e).e tl sc v && mtGS nm sc g tg && !(compE v) && (!(swB sc v tg) || isLc e) && swOk sc tg v) = true) : PS X (.Assign [tg] v pos) (tAsg (rd P Er Tb Gv e W).v (gK X.K g)) := by
  rw [Bool.and_eq_true, Bool.and_eq_true, Bool.and_eq_true, Bool.and_eq_true, Bool.not_eq_true'] at h
  obtain ⟨⟨⟨⟨h1, h2⟩, h3⟩, h4⟩, h5⟩ := h
  have hN : X.N.Nodup := by rw [A.N]; exact A.nd
  have pe := (der e X Er W sc tl L A.toAmb).e v h1
  have pg := pg_ofS A.fn A.calm A.N A.nd A.hsc h2
  cases hsw : swB sc v tg with
  | false =>
    cases g with
    | name i =>
      cases tg <;> first | cases h2 | skip
      case Name x p =>
      have h2' : (decide (nm.N[i]? = some x) && locB sc x) = true := h2
      rw [Bool.and_eq_true] at h2'
      exact ps_set hN (isN_ A.N h2'.1) (locB_of A.hsc h2'.2) pe.1 (swB_of (nm := nm) (l := pos.line) A.hsc A.kind h3 hsw (.inr (.inl ⟨_, _, rfl⟩))) (.inl (A.fn x))
    | tup is =>
      cases tg <;> first | cases h2 | skip
      case Tuple es k p =>
      exact ps_asg pe.1 pg (swB_of (nm := nm) (l := pos.line) A.hsc A.kind h3 hsw (.inr (.inr ⟨_, _, _, rfl⟩))) (swOk_of A.hsc A.kind h5)
  | true =>
    rw [hsw] at h4
    have h4' : isLc e = true := by simpa using h4
    clear h4
    cases e <;> first | exact absurd h4' Bool.false_ne_true | skip
    case lc vs g' k it c e =>
    obtain ⟨elt, tg2, iter, ifs, csc, p, e1⟩ := lc_form h1
    subst e1
    cases tg <;> first | cases hsw | skip
    case Name x q =>
    have hsw' : (decide (sc.names.lookup x = some .local) && q.line == p.line && !(csc.names.any fun (n, k) => n == x && (k == .local || k == .cell))) = true := hsw
    rw [Bool.and_eq_true, Bool.and_eq_true, Bool.not_eq_true'] at hsw'
    obtain ⟨⟨s1, s2⟩, s3⟩ := hsw'
    cases g with
    | tup is => cases h2
    | name i =>
      have h2' : (decide (nm.N[i]? = some x) && locB sc x) = true := h2
      rw [Bool.and_eq_true] at h2'
      have hl : X.env.scope.names.lookup x = some .local := by rw [A.hsc]; exact of_decide_eq_true s1
      obtain ⟨q1, q2, q3, q4, q5, q6⟩ := lc_parts (der it) (der c) (der e) L A.toAmb h1
      have := ps_setLc (spos := pos) (pos := p) (py := q) A.calm hN (isN_ A.N h2'.1) hl (sw_true (by rw [A.hsc]; exact A.kind) hl s2 s3) q1 q2 q4 q5 q6 (fold_of (lc_iter h1))
      rw [q3] at this
      exact this
theorem list_ok {i : Nat} {name : Str} {f : List Expr → Bool} {st : Stmt} (A : Amb nm kk Tb Er.xv X sc W tl) (h : listM nm sc i name f st = true) : ∃ (x : Str) (p apos cpos pos : Pos) (es : List Expr), st = .Expr (.Call (.Attribute (.Name x p) name apos) es [] cpos) pos ∧
    PE X (.Name x p) (tVar i) ∧ (apos.endLine == cpos.line) = true ∧ f es = true := by
  cases st <;> first | cases h | skip
  case Expr v pos =>
  cases v <;> first | cases h | skip
  case Call fe es kw cpos =>
  cases fe <;> first | cases h | skip
  case Attribute o n apos =>
  cases o <;> first | cases h | skip
  case Name x p =>
  cases kw <;> first | cases h | skip
  have h' : (decide (nm.N[i]? = some x) && vis sc x && !(x == dbg) && !(x == ("__classdict__" : Str)) && decide (n = name) && (apos.endLine == cpos.line) && f es) = true := h
  rw [Bool.and_eq_true, Bool.and_eq_true, Bool.and_eq_true, Bool.and_eq_true, Bool.and_eq_true, Bool.and_eq_true, Bool.not_eq_true', Bool.not_eq_true'] at h'
  obtain ⟨⟨⟨⟨⟨⟨h1, h2⟩, h3⟩, h4⟩, h5⟩, h6⟩, h7⟩ := h'
  have e5 : n = name := of_decide_eq_true h5
  subst e5
  exact ⟨x, p, apos, cpos, pos, es, rfl, pe_var (isN_ A.N h1) (vis_of A.hsc h2) h3 h4, h6, h7⟩
theorem raise_ok {c : Str} {st : Stmt} (A : AmbS nm kk Tb Er.xv rs X sc W tl) (h : raisM rs sc c st = true) : PS X st (fun _ σ H => W (Er.xv c) none σ H) := by
  cases st <;> first | cases h | skip
  case Raise ex cause pos =>
  rcases ex with _ | ex
  · cases cause <;> cases h
  cases ex <;> first | (cases cause <;> cases h) | skip
  case Call fe es kw cpos =>
  cases fe <;> first | (cases cause <;> cases h) | skip
  case Name x p =>
  rcases es with _ | ⟨a, _ | ⟨_, _⟩⟩
  · cases cause <;> cases h
  · cases a <;> first | (cases cause <;> cases h) | skip
    case Constant k j p2 =>
    cases k <;> first | (cases cause <;> cases h) | skip
    case str m =>
    cases kw with
    | cons _ _ => cases cause <;> cases h
    | nil =>
    cases cause with
    | some _ => cases h
    | none =>
    have h' : (decide (x = c) && rs.contains c && gl sc x) = true := h
    rw [Bool.and_eq_true, Bool.and_eq_true] at h'
    obtain ⟨⟨h1, h2⟩, h3⟩ := h'
    have e1 : x = c := of_decide_eq_true h1
    subst e1
    obtain ⟨g1, g2⟩ := gl_of A.hsc h3
    obtain ⟨C, v1, v2, v3, v4, v5, v6⟩ := (A.rs x (by simpa using h2)).ex
    rw [v1]
    exact ps_raise A.calm A.tk (pmk_own PySem.F.excBase_ValueError v4 v2 v3 (raises_own v5 v6) g1 g2)
  · cases a <;> first | (cases cause <;> cases h) | skip
    case Constant k j p2 => cases k <;> cases kw <;> cases cause <;> cases h
theorem nodup2 {i j : Nat} (h : [i, j].Nodup) : i ≠ j := by
  rw [List.nodup_cons] at h
  exact fun z => h.1 (by simp [z])
theorem par_der {is : List Nat} {a : E} {ts vs : List Expr} {k1 k2 : Nat} {p1 p2 pos : Pos} (L : Lib P Er Tb Gv nm kk X.prog X.w X.mg X.base) (A : AmbS nm kk Tb Er.xv rs X sc W tl)
    (h : (decide (ts.length = 2 ∨ ts.length = 3) && decide (is.Nodup) && mtIs nm sc is ts && isPar sc ts vs && (mt nm a).a tl sc vs) = true) : PS X (.Assign [.Tuple ts k1 p1] (.Tuple vs k2 p2) pos) (tParL is (rd P Er Tb Gv a W).a) := by
  rw [Bool.and_eq_true, Bool.and_eq_true, Bool.and_eq_true, Bool.and_eq_true] at h
  obtain ⟨⟨⟨⟨g1, g2⟩, h3⟩, h4⟩, h5⟩ := h
  have hN : X.N.Nodup := by rw [A.N]; exact A.nd
  have h1 := of_decide_eq_true g1
  have h2 := of_decide_eq_true g2
  clear g1 g2
  have pa := (der a X Er W sc tl L A.toAmb).a vs h5
  have hw : swappedStores [.Tuple ts k1 p1] (.Tuple vs k2 p2) X.env = pure (some (namesE ts)) := swT_of A.hsc A.kind (of_decide_eq_true h4)
  have hlen : vs.length = ts.length := by
    have h4' := of_decide_eq_true h4
    unfold swT at h4'
    split at h4'
    · cases h4'
    · rename_i hq
      simp only [Bool.or_eq_true, not_or] at hq
      simpa using hq.2
  have lk : ∀ {x : Str}, decide (sc.names.lookup x = some .local) = true → X.env.scope.names.lookup x = some .local := fun h => by rw [A.hsc]; exact of_decide_eq_true h
  rcases ts with _ | ⟨t1, _ | ⟨t2, _ | ⟨t3, _ | ⟨_, _⟩⟩⟩⟩
  · simp at h1
  · simp at h1
  · rcases is with _ | ⟨i, _ | ⟨j, _ | ⟨_, _⟩⟩⟩
    · cases h3
    · cases t1 <;> first | cases h3 | skip
      case Name => simp [mtIs] at h3
    · cases t1 <;> first | cases h3 | skip
      case Name x q =>
      cases t2 <;> first | (simp [mtIs] at h3; done) | skip
      case Name y q2 =>
      have h3' : (decide (nm.N[i]? = some x) && decide (sc.names.lookup x = some .local) && (decide (nm.N[j]? = some y) && decide (sc.names.lookup y = some .local) && true)) = true := h3
      rw [Bool.and_eq_true, Bool.and_eq_true, Bool.and_eq_true, Bool.and_eq_true] at h3'
      obtain ⟨⟨x1, x2⟩, ⟨y1, y2⟩, _⟩ := h3'
      rcases vs with _ | ⟨a1, _ | ⟨a2, _ | ⟨_, _⟩⟩⟩
      · simp at hlen
      · simp at hlen
      · refine ⟨fun pins s σ H D I q => (ps_par A.calm hN (isN_ A.N x1) (isN_ A.N y1) (nodup2 h2) (lk x2) (lk y2) pa hw).run pins s σ H D I ?_⟩
        have q' : (rd P Er Tb Gv a W).a σ H fun vs H1 => vs.length = 2 ∧ D.nx (setAll σ [i, j] vs) H1 := q
        have e : (fun (vs : List V) H1 => vs.length = 2 ∧ D.nx (setAll σ [i, j] vs) H1) = fun vs H1 => ∃ v w, vs = [v, w] ∧ D.nx ((σ.set i (some v)).set j (some w)) H1 := by
          funext vs H1
          apply propext
          constructor
          · rintro ⟨l, d⟩
            rcases vs with _ | ⟨v, _ | ⟨w, _ | ⟨_, _⟩⟩⟩
            · simp at l
            · simp at l
            · exact ⟨v, w, rfl, d⟩
            · simp at l
          · rintro ⟨v, w, rfl, d⟩
            exact ⟨rfl, d⟩
        rw [e] at q'
        exact q'
      · simp at hlen
    · cases t1 <;> first | cases h3 | skip
      case Name => cases t2 <;> simp [mtIs] at h3
  · rcases is with _ | ⟨i, _ | ⟨j, _ | ⟨l, _ | ⟨_, _⟩⟩⟩⟩
    · cases h3
    · cases t1 <;> first | cases h3 | skip
      case Name => simp [mtIs] at h3
    · cases t1 <;> first | cases h3 | skip
      case Name => cases t2 <;> simp [mtIs] at h3
    · cases t1 <;> first | cases h3 | skip
      case Name x q =>
      cases t2 <;> first | (simp [mtIs] at h3; done) | skip
      case Name y q2 =>
      cases t3 <;> first | (simp [mtIs] at h3; done) | skip
      case Name z q3 =>
      have h3' : (decide (nm.N[i]? = some x) && decide (sc.names.lookup x = some .local) && (decide (nm.N[j]? = some y) && decide (sc.names.lookup y = some .local) && (decide (nm.N[l]? = some z) && decide (sc.names.lookup z = some .local) && true))) = true := h3
      rw [Bool.and_eq_true, Bool.and_eq_true, Bool.and_eq_true, Bool.and_eq_true, Bool.and_eq_true, Bool.and_eq_true] at h3'
      obtain ⟨⟨x1, x2⟩, ⟨y1, y2⟩, ⟨z1, z2⟩, _⟩ := h3'
      have n1 : i ≠ j := fun e => by subst e; simp at h2
      have n2 : i ≠ l := fun e => by subst e; simp at h2
      have n3 : j ≠ l := fun e => by subst e; simp at h2
      rcases vs with _ | ⟨a1, _ | ⟨a2, _ | ⟨a3, _ | ⟨_, _⟩⟩⟩⟩
      · simp at hlen
      · simp at hlen
      · simp at hlen
      · refine ⟨fun pins s σ H D I q => (ps_par3 A.calm hN (isN_ A.N x1) (isN_ A.N y1) (isN_ A.N z1) n1 n2 n3 (lk x2) (lk y2) (lk z2) pa hw).run pins s σ H D I ?_⟩
        have q' : (rd P Er Tb Gv a W).a σ H fun vs H1 => vs.length = 3 ∧ D.nx (setAll σ [i, j, l] vs) H1 := q
        have e : (fun (vs : List V) H1 => vs.length = 3 ∧ D.nx (setAll σ [i, j, l] vs) H1) = fun vs H1 => ∃ u v w, vs = [u, v, w] ∧ D.nx (((σ.set i (some u)).set j (some v)).set l (some w)) H1 := by
          funext vs H1
          apply propext
          constructor
          · rintro ⟨l, d⟩
            rcases vs with _ | ⟨u, _ | ⟨v, _ | ⟨w, _ | ⟨_, _⟩⟩⟩⟩
            · simp at l
            · simp at l
            · simp at l
            · exact ⟨u, v, w, rfl, d⟩
            · simp at l
          · rintro ⟨u, v, w, rfl, d⟩
            exact ⟨rfl, d⟩
        rw [e] at q'
        exact q'
      · simp at hlen
    · cases t1 <;> first | cases h3 | skip
      case Name => cases t2 <;> first | (simp [mtIs] at h3; done) | (cases t3 <;> simp [mtIs] at h3)
  · simp at h1
theorem derS : ∀ m : S, DerSAll nm kk P Tb Gv rs m
  | .skip => fun X Er W sc tl L A => ⟨fun st h => (by cases h), fun l h => by
    cases l with
    | nil => exact pss_nil
    | cons _ _ => cases h⟩
  | .seq a b => fun X Er W sc tl L A => ⟨fun st h => (by cases h), fun l h => by
    cases l with
    | nil => cases h
    | cons x r =>
      have h' : ((mtS nm rs a).s tl sc x && (mtS nm rs b).b tl sc r) = true := h
      rw [Bool.and_eq_true] at h'
      exact pss_cons ((derS a X Er W sc tl L A).s x h'.1) ((derS b X Er W sc tl L A).b r h'.2)⟩
  | .frz i a => fun X Er W sc tl L A => ⟨(derS a X Er W sc tl L A).s, (derS a X Er W sc tl L A).b⟩
  | .pass => fun X Er W sc tl L A => derS_st (fun _ => rfl) fun st h => by
    cases st <;> first | exact ps_pass | cases h
  | .brk => fun X Er W sc tl L A => derS_st (fun _ => rfl) fun st h => by
    cases st <;> first | exact ps_break | cases h
  | .cont => fun X Er W sc tl L A => derS_st (fun _ => rfl) fun st h => by
    cases st <;> first | exact ps_continue | cases h
  | .expr e => fun X Er W sc tl L A => derS_st (fun _ => rfl) fun st h => by
    cases st <;> first | cases h | skip
    case Expr v p =>
    have h' : ((mt nm e).e tl sc v && !(compE v) && !(lcE v)) = true := h
    rw [Bool.and_eq_true, Bool.and_eq_true, Bool.not_eq_true', Bool.not_eq_true'] at h'
    refine ps_expr ((der e X Er W sc tl L A.toAmb).e v h'.1.1).1 ?_
    obtain ⟨⟨_, h1⟩, h2⟩ := h'
    cases v <;> first | rfl | (exact absurd h1 Bool.noConfusion) | (exact absurd h2 Bool.noConfusion)
  | .asg g e => fun X Er W sc tl L A => derS_st (fun _ => rfl) fun st h => by
    cases st <;> first | cases h | skip
    case Assign tgs v p =>
    rcases tgs with _ | ⟨tg, _ | ⟨_, _⟩⟩ <;> first | cases h | skip
    exact asg_ok L A h
  | .asgO i e => fun X Er W sc tl L A => derS_st (fun _ => rfl) fun st h => by
    cases st <;> first | cases h | skip
    case Assign tgs v p =>
    rcases tgs with _ | ⟨tg, _ | ⟨_, _⟩⟩ <;> first | cases h | skip
    exact asg_ok (g := .name i) L A h
  | .par is a => fun X Er W sc tl L A => derS_st (fun _ => rfl) fun st h => by
    cases st <;> first | cases h | skip
    case Assign tgs v p =>
    rcases tgs with _ | ⟨tg, _ | ⟨_, _⟩⟩ <;> first | cases h | skip
    · cases tg <;> first | cases h | skip
      case Tuple ts k1 p1 =>
      cases v <;> first | cases h | skip
      case Tuple vs k2 p2 => exact par_der L A h
    · cases tg <;> first | cases h | skip
  | .asgT is a => fun X Er W sc tl L A => derS_st (fun _ => rfl) fun st h => by
    cases st <;> first | cases h | skip
    case Assign tgs v pos =>
    rcases tgs with _ | ⟨tg, _ | ⟨_, _⟩⟩ <;> first | cases h | skip
    · cases v <;> first | cases h | skip
      case Tuple vs k2 p2 =>
      have h' : ((mt nm a).a tl sc vs && mtGS nm sc (.tup (is.map (·.1))) tg && !(swB sc (.Tuple vs k2 p2) tg) && swOk sc tg (.Tuple vs k2 p2)) = true := h
      rw [Bool.and_eq_true, Bool.and_eq_true, Bool.and_eq_true, Bool.not_eq_true'] at h'
      obtain ⟨⟨⟨h1, h2⟩, h4⟩, h5⟩ := h'
      cases tg <;> first | cases h2 | skip
      case Tuple es k p =>
      exact ps_asg (pe_tup (pa_mono ((der a X Er W sc tl L A.toAmb).a vs h1))) (pg_ofS A.fn A.calm A.N A.nd A.hsc h2) (swB_of (nm := nm) (l := pos.line) A.hsc A.kind rfl h4 (.inr (.inr ⟨_, _, _, rfl⟩))) (swOk_of A.hsc A.kind h5)
  | .setx o ix e => fun X Er W sc tl L A => derS_st (fun _ => rfl) fun st h => by
    cases st <;> first | cases h | skip
    case Assign tgs v p =>
    rcases tgs with _ | ⟨tg, _ | ⟨_, _⟩⟩ <;> first | cases h | skip
    · cases tg <;> first | cases h | skip
      case Subscript x y q =>
      have h' : ((mt nm e).e tl sc v && (mt nm o).e tl sc x && (mt nm ix).e tl sc y) = true := h
      rw [Bool.and_eq_true, Bool.and_eq_true] at h'
      obtain ⟨⟨h1, h2⟩, h3⟩ := h'
      refine ps_asg ((der e X Er W sc tl L A.toAmb).e v h1).1 (pg_sub ((der o X Er W sc tl L A.toAmb).e x h2).1 ((der ix X Er W sc tl L A.toAmb).e y h3).1 set_list ?_) ?_ ?_
      · intro z
        cases y with
        | Slice l u s p => rw [mt_slice] at h3; cases h3
        | _ => rfl
      · cases v <;> rfl
      · cases v <;> rfl
    · cases tg <;> first | cases h | skip
  | .aug i o e => fun X Er W sc tl L A => derS_st (fun _ => rfl) fun st h => by
    cases st <;> first | cases h | skip
    case AugAssign tg op v p =>
    cases tg <;> first | cases h | skip
    case Name x q =>
    have h' : (decide (o = op) && decide (nm.N[i]? = some x) && locB sc x && (mt nm e).e tl sc v) = true := h
    rw [Bool.and_eq_true, Bool.and_eq_true, Bool.and_eq_true] at h'
    obtain ⟨⟨⟨h1, h2⟩, h3⟩, h4⟩ := h'
    have e1 : o = op := of_decide_eq_true h1
    subst e1
    exact ps_aug (by rw [A.N]; exact A.nd) (isN_ A.N h2) (locB_of A.hsc h3) ((der e X Er W sc tl L A.toAmb).e v h4).1 (op_aug o) (.inl (A.fn x))
  | .app i e => fun X Er W sc tl L A => derS_st (fun _ => rfl) fun st h => by
    obtain ⟨x, p, apos, cpos, pos, es, e1, pv, hl, hf⟩ := list_ok (Er := Er) A.toAmb h
    subst e1
    rcases es with _ | ⟨y, _ | ⟨_, _⟩⟩ <;> first | cases hf | skip
    have hs : starEach [y] X.env = [(false, eval y X.env)] := star_cons (mt_ns hf)
    exact ps_expr (pe_bm PySem.F.plainAttrs_list PySem.F.slot_list_append PySem.F.type_list_append mt_append pv (pa_cons ((der e X Er W sc tl L A.toAmb).e y hf).1 pa_nil hs) (by rfl) (by rw [hs]; rfl) hl hs (by rfl))
  | .ext i e => fun X Er W sc tl L A => derS_st (fun _ => rfl) fun st h => by
    obtain ⟨x, p, apos, cpos, pos, es, e1, pv, hl, hf⟩ := list_ok (Er := Er) A.toAmb h
    subst e1
    rcases es with _ | ⟨y, _ | ⟨_, _⟩⟩ <;> first | cases hf | skip
    have hs : starEach [y] X.env = [(false, eval y X.env)] := star_cons (mt_ns hf)
    exact ps_expr (pe_bm PySem.F.plainAttrs_list PySem.F.slot_list_extend PySem.F.type_list_extend mt_extend pv (pa_cons ((der e X Er W sc tl L A.toAmb).e y hf).1 pa_nil hs) (by rfl) (by rw [hs]; rfl) hl hs (by rfl))
  | .pop i => fun X Er W sc tl L A => derS_st (fun _ => rfl) fun st h => by
    obtain ⟨x, p, apos, cpos, pos, es, e1, pv, hl, hf⟩ := list_ok (Er := Er) A.toAmb h
    subst e1
    cases es with
    | cons _ _ => cases hf
    | nil => exact ps_expr (pe_bm0 PySem.F.plainAttrs_list PySem.F.slot_list_pop PySem.F.type_list_pop mt_pop pv (by rfl) hl)
  | .ite c a b => fun X Er W sc tl L A => derS_st (fun _ => rfl) fun st h => by
    cases st <;> first | cases h | skip
    case If x y z p =>
    have h' : ((mt nm c).e tl sc x && (mtS nm rs a).b tl sc y && (mtS nm rs b).b tl sc z) = true := h
    rw [Bool.and_eq_true, Bool.and_eq_true] at h'
    exact ps_if ((der c X Er W sc tl L A.toAmb).e x h'.1.1).2.1 ((derS a X Er W sc tl L A).b y h'.1.2) ((derS b X Er W sc tl L A).b z h'.2)
  | .whl c b => fun X Er W sc tl L A => derS_st (fun _ => rfl) fun st h => by
    cases st <;> first | cases h | skip
    case While x y z p =>
    cases z with
    | cons _ _ => cases h
    | nil =>
    have h' : ((mt nm c).e tl sc x && (mtS nm rs b).b tl sc y) = true := h
    rw [Bool.and_eq_true] at h'
    exact ps_while A.po ((der c X Er W sc tl L A.toAmb).e x h'.1).2.1 ((derS b X Er W sc tl L A).b y h'.2)
  | .for g k it b => fun X Er W sc tl L A => derS_st (fun _ => rfl) fun st h => by
    cases st <;> first | cases h | skip
    case For tg iter y z p =>
    cases z with
    | cons _ _ => cases h
    | nil =>
    have h' : (mtGS nm sc g tg && mtI nm k ((mt nm it).a tl sc) tg sc iter && (mtS nm rs b).b tl sc y) = true := h
    rw [Bool.and_eq_true, Bool.and_eq_true] at h'
    obtain ⟨⟨h1, h2⟩, h3⟩ := h'
    have D := der it X Er W sc tl L A.toAmb
    exact ps_for A.po A.calm (pi_of A.hsc L.blt D.a D.one h2) (pg_ofS A.fn A.calm A.N A.nd A.hsc h1) ((derS b X Er W sc tl L A).b y h3) (fold_of h2)
  | .ret e => fun X Er W sc tl L A => derS_st (fun _ => rfl) fun st h => by
    cases st <;> first | cases h | skip
    case Return v p =>
    cases v <;> first | cases h | skip
    case some v => exact ps_ret ((der e X Er W sc tl L A.toAmb).e v h).1
  | .retN => fun X Er W sc tl L A => derS_st (fun _ => rfl) fun st h => by
    cases st <;> first | cases h | skip
    case Return v p =>
    cases v <;> first | cases h | skip
    exact ps_retN
  | .rais c => fun X Er W sc tl L A => derS_st (fun _ => rfl) fun st h => raise_ok A h
  | .raisP _ _ => fun X Er W sc tl L A => derS_st (fun _ => rfl) fun st h => by cases h
end
end Mini

namespace Mini
open PySem PySem.Spec PyProof.Rows L2

def hdsOf (sc : Scope) : List ExceptHandler → Option (List (Str × Str))
  | [] => some []
  | .ExceptHandler (some (.Name e _)) none [.Return (some (.Constant (.str ret) _ _)) _] _ :: r => if gl sc e then (hdsOf sc r).map ((e, ret) :: ·) else none
  | _ :: _ => none
def toldB (hs : List (Str × Str)) (a : Str) (sc : Scope) : List Stmt → Bool
  | [.Try [.Return (some (.Call (.Name x _) [] [] _)) _] (h :: r) [] [] _] => decide (x = a) && decide (hdsOf sc (h :: r) = some hs)
  | _ => false
section
variable {X : Cx}
theorem wStr_many {K : PySem.W.Frag} {xv : Str → Value} {Q : VK} {D : Ends} (hD : D.rt = Q) : ∀ (hs : List (Str × Str)) (l : List (Value × (Addr → Value → Option Addr → TS))), l.map (·.1) = hs.map (fun h => xv h.1) →
    (∀ (i : Nat) (h : Str × Str) (c : Value × (Addr → Value → Option Addr → TS)), hs[i]? = some h → l[i]? = some c → c.2 = fun _ _ _ => tRet (tC (.str h.2))) →
    ∀ cls d σ H, wStr K xv Q hs cls d H → wMany K (fun _ _ _ _ => False) D l cls d σ H
  | [], [], _, _, cls, d, σ, H, w => w
  | [], _ :: _, e, _, _, _, _, _, _ => by cases e
  | _ :: _, [], e, _, _, _, _, _, _ => by cases e
  | (c, s) :: hs, (v, ts) :: l, e, f, cls, d, σ, H, w => by
    have e1 : v = xv c := (List.cons.inj e).1
    have e2 := (List.cons.inj e).2
    subst e1
    obtain ⟨b, h1, h2, h3⟩ := w
    refine ⟨b, h1, fun hb a _ => ?_, fun hb => wStr_many hD hs l e2 (fun i h c hi hc => f (i + 1) h c hi hc) cls d σ H (h3 hb)⟩
    have e3 : ts = fun _ _ _ => tRet (tC (.str s)) := f 0 (c, s) _ rfl rfl
    rw [e3]
    show D.rt (.str s) H
    rw [hD]
    exact h2 hb
theorem hds_ok {sc : Scope} {xv : Str → Value} (hsc : X.env.scope = sc) (hx : ∀ c, (∃ s, (c, s) ∈ ([] : List (Str × Str))) → True) : ∀ (hds : List ExceptHandler) (hs : List (Str × Str)), hdsOf sc hds = some hs → (∀ c s, (c, s) ∈ hs → X.mg c = some (xv c)) →
    ∃ l, HdsOk X hds l ∧ l.map (·.1) = hs.map (fun h => xv h.1) ∧ ∀ (i : Nat) (h : Str × Str) (c : Value × (Addr → Value → Option Addr → TS)), hs[i]? = some h → l[i]? = some c → c.2 = fun _ _ _ => tRet (tC (.str h.2))
  | [], hs, e, _ => by
    cases e
    exact ⟨[], .nil, rfl, fun i h c hi _ => by simp at hi⟩
  | hd :: r, hs, e, hm => by
    unfold hdsOf at e
    split at e
    · rename_i heq
      cases heq
    · rename_i r' ex q ret q2 q3 q4 q5 heq
      cases heq
      split at e
      · rename_i hg
        cases er : hdsOf sc r with
        | none => rw [er] at e; cases e
        | some hr =>
          rw [er] at e
          cases e
          obtain ⟨g1, g2⟩ := gl_of hsc hg
          obtain ⟨l, h1, h2, h3⟩ := hds_ok hsc hx r hr er fun c s hcs => hm c s (List.mem_cons_of_mem _ hcs)
          refine ⟨(xv _, fun _ _ _ => tRet (tC (.str _))) :: l, .cons ⟨g1, g2, .inl (hm _ _ List.mem_cons_self)⟩ (fun a oe cls d pn _ _ => pss_one (ps_ret pe_str)) h1, by rw [List.map_cons, List.map_cons, h2], fun i h c hi hc => ?_⟩
          cases i with
          | zero =>
            cases hi
            cases hc
            rfl
          | succ i => exact h3 i h c hi hc
      · cases e
    · cases e
theorem told_gives {Ng : List Str} {x a q : Str} {sg : Scope} {g : Addr} {cdg : Value} {hs : List (Str × Str)} {bg : List Stmt} {xv : Str → Value} (hb : toldB hs a sg bg = true) (hm : ∀ c s, (c, s) ∈ hs → X.mg c = some (xv c))
    (h0 : ∀ f : Addr, (L2.start Ng [V.ref f])[0]? = some (some (V.ref f))) : LamX.GivesTo X Ng x sg g cdg bg a q (TTm X.K xv hs) := by
  intro f c' s H Q tl act hc h
  unfold toldB at hb
  split at hb
  · rename_i a' p1 p2 p3 hd r p8
    rw [Bool.and_eq_true] at hb
    have ea : a' = a := of_decide_eq_true hb.1
    subst ea
    obtain ⟨l, k1, k2, k3⟩ := hds_ok (X := (cxOf C8.CX0 X.prog X.w X.K X.mg X.base Ng x sg g cdg X.A X.stack s H C8.E0).nox) (sc := sg) (xv := xv) rfl (fun _ _ => trivial) (hd :: r) hs (of_decide_eq_true hb.2) hm
    refine ⟨_, pss_one (ps_try_many (X := (cxOf C8.CX0 X.prog X.w X.K X.mg X.base Ng x sg g cdg X.A X.stack s H C8.E0).nox) (l := l) (Wout := fun _ _ _ _ => False)
      (tb := fun W D σ H => ∃ Ech : XK, (∀ cls d σ' H', Ech cls d H' → W cls d σ' H') ∧ σ[0]? = some (some (.ref f)) ∧ H c' = some (LamX.CodeO c' q) ∧ tl Ech H D.rt)
      rfl rfl takes_none5 (fun W pn xe tk _ => ?_) k1), ?_⟩
    · refine ⟨fun pins s' σ H' D I h' => ?_⟩
      obtain ⟨Ech, hW, h1, h2, h3⟩ := h'
      have hp := act W pn xe Ech p1 p2 tk hW
      have hq := pss_one (ps_ret (pos := p3) hp)
      exact hq.run pins s' σ H' D I ⟨h1, h2, h3⟩
    · exact ⟨wStr X.K xv Q hs, fun cls d σ' H' w => wStr_many rfl hs l k2 k3 cls d σ' H' w, h0 f, hc, h⟩
  · cases hb
end

structure Df where
  x : Str
  ps : List Str
  N : List Str
  m : S
structure Txt where
  params : Arguments
  body : List Stmt
  scope : Scope
def progG (X : List Str) (G : Nat → D) (n : Nat) (ds : List Df) : Nat → Nat → List D → Dl → R D
  | 0 => fun _ _ _ => .bad
  | k + 1 => fun f as δ => match ds[f]? with
    | some d => runF { F := progG X G n ds k, G := G, X := X } n d.ps.length d.N.length d.m as δ
    | none => .bad
def progF (X : List Str) (G : Nat → D) (n : Nat) (ds : List Df) (k : Nat) : Par where
  F := progG X G n ds k
  G := G
  X := X
structure Nb where
  gn : Nat → Option Str
  blts : List Str
  told : Str
  hs : List (Str × Str)
  gxs : List Str
def Nb.nm (b : Nb) (ds : List Df) (N : List Str) (lw gx : Bool) : Nm where
  N := N
  fn := fun i => (ds[i]?).map (·.x)
  gn := b.gn
  blts := b.blts
  told := b.told
  hs := b.hs
  lw := lw
  gx := gx
def genQ (x : Str) : Str := (envOfC x ⟨.function, [], false, false, []⟩ 0 0 .none).qual ++ "<genexpr>"
def scB (N ps : List Str) (sc : Scope) : Bool :=
  decide (sc.kind = .function) && !sc.isCoroutine && !sc.isGenerator && decide N.Nodup && decide (N.take ps.length = ps) && ps.all (fun x => locB sc x) && sc.names.all (fun y => !decide (y.2 = .free))
theorem scB_ok {N ps : List Str} {sc : Scope} (h : scB N ps sc = true) : FnScope N ps sc := by
  unfold scB at h
  simp only [Bool.and_eq_true, Bool.not_eq_true', decide_eq_true_eq, List.all_eq_true, decide_eq_false_iff_not] at h
  obtain ⟨⟨⟨⟨⟨⟨h1, h2⟩, h3⟩, h4⟩, h5⟩, h6⟩, h7⟩ := h
  refine ⟨h1, h2, h3, h4, h5, fun x hx => ?_, h7⟩
  have := h6 x hx
  unfold locB at this
  rw [Bool.or_eq_true] at this
  exact this.elim (fun h => .inl (of_decide_eq_true h)) fun h => .inr (of_decide_eq_true h)
def okDf (b : Nb) (rs : List Str) (ds : List Df) (lw : Bool) (d : Df) (t : Txt) : Bool := scB d.N d.ps t.scope && (mtS (b.nm ds d.N lw (b.gxs.contains d.x)) rs d.m).b true t.scope t.body
def GxAt (Tb : List (Addr × Str)) (mg : Str → Option Value) (base : Heap) (x : Str) (fd : FuncData) : Prop := ∃ c P : Addr, LamX.TabB base mg c P ∧ fd.code = .ref c ∧ (P, genQ x) ∈ Tb ∧ ∀ p ∈ Tb, p.1 = P → p.2 = genQ x
structure DfAt (K : PySem.W.Frag) (mg : Str → Option Value) (gx : Bool) (Tb : List (Addr × Str)) (base : Heap) (d : Df) (t : Txt) : Prop where
  ex : ∃ f fd, FunD K d.x d.x t.params t.body t.scope [] [] f fd ∧ mg d.x = some (.ref f) ∧ Binds K fd d.ps [] ∧ (gx = true → GxAt Tb mg base d.x fd)
section
variable {K : PySem.W.Frag} {Pr : Par} {Er : Errs K Pr.X} {Tb : List (Addr × Str)} {Gv : Nat → V} {prog : Program} {w : World} {mg : Str → Option Value} {base : Heap}
theorem spOf_len {n k wd : Nat} {m : S} {vs : List V} {H : Hp} {Q : VK} {E : XK} (h : spOf Er Tb (runF Pr n k wd m) vs H Q E) : vs.length = k := by
  obtain ⟨C, M, ts, δ, p, r, q⟩ := h
  unfold runF at q
  split at q
  · rename_i hl; rw [r.length, hl]
  · exact q.elim
theorem fn_okM {kk n : Nat} {b : Nb} {rs : List Str} {ds : List Df} {d : Df} {t : Txt} {f : Addr} {fd : FuncData} {lw gx : Bool} (hG : ∀ g C M H, Rep K C M H (Pr.G g) (Gv g)) (F : FunD K d.x d.x t.params t.body t.scope [] [] f fd) (ok : okDf b rs ds false d t = true)
    (L : Lib Pr Er Tb Gv (b.nm ds d.N lw gx) kk prog w mg base) (hr : ∀ c, c ∈ rs → Rs K mg c (Er.xv c)) (hgx : b.gxs.contains d.x = true → GxAt Tb mg base d.x fd) : FnOk prog w K mg base (L2.CX prog w) (kk + 2) f fd d.ps (spOf Er Tb (runF Pr n d.ps.length d.N.length d.m)) := by
  unfold okDf at ok
  rw [Bool.and_eq_true] at ok
  have S := scB_ok ok.1
  obtain ⟨oc, od, dV, kV, doc, pm, an, cdv, ct, osl, rfl, lk, hcd, _, _⟩ := F.ex
  refine fn_of lk hcd S (fun vs H Q E h => spOf_len h) fun A outer s H vs Q E hroom h => ?_
  refine ⟨rdS Pr Er Tb Gv (fun cls d _ H => E cls d H) d.m, ?_, run_ok (snd hG) h⟩
  have L' : Lib (K := (cxOf (L2.CX prog w) prog w K mg base d.N d.x t.scope f cdv A outer s H E).K) Pr Er Tb Gv (b.nm ds d.N false (b.gxs.contains d.x)) kk prog w mg base := ⟨L.fns, L.glb, L.blt⟩
  exact (derS d.m (cxOf (L2.CX prog w) prog w K mg base d.N d.x t.scope f cdv A outer s H E) Er (fun cls d _ H => E cls d H) t.scope true L'
    ⟨⟨rfl, S.nd, rfl, rfl, takes_of rfl rfl rfl rfl, hroom.mono (Nat.le_succ _), (fun _ z => by
      obtain ⟨c, P, q1, q2, q3, q4⟩ := hgx z
      exact ⟨hroom, c, P, q1, q2, q3, q4⟩), fun _ z => by cases z⟩, fun _ => rfl, passes_of rfl, S.kind, hr⟩).b t.body ok.2
end
section
variable {K : PySem.W.Frag} {X : List Str} {Er : Errs K X} {Tb : List (Addr × Str)} {Gv : Nat → V} {prog : Program} {w : World} {mg : Str → Option Value} {base : Heap}
theorem lib_at {G : Nat → D} {n : Nat} {b : Nb} {rs : List Str} {ds : List Df} (hG : ∀ g C M H, Rep K C M H (G g) (Gv g)) (hd : ∀ (i : Nat) (d : Df), ds[i]? = some d → ∃ t, DfAt K mg (b.gxs.contains d.x) Tb base d t ∧ okDf b rs ds false d t = true) (hgl : ∀ g x, b.gn g = some x → ∃ u, mg x = some u ∧ RelV (Gv g) u)
    (hbl : ∀ x, x ∈ b.blts → mg x = none) (hr : ∀ c, c ∈ rs → Rs K mg c (Er.xv c)) : ∀ (k : Nat) (N : List Str) (lw gx : Bool), Lib (progF X G n ds k) Er Tb Gv (b.nm ds N lw gx) (2 * k) prog w mg base
  | 0, N, lw, gx => by
    refine ⟨fun f x e => ?_, hgl, hbl⟩
    have e' : (ds[f]?).map (·.x) = some x := e
    cases ed : ds[f]? with
    | none => rw [ed] at e'; cases e'
    | some d =>
      rw [ed] at e'
      cases e'
      obtain ⟨t, ⟨fa, fd, F, hm, hb, _⟩, _⟩ := hd f d ed
      exact ⟨fa, fd, d.ps, 0, Nat.le_refl _, hm, F.kp, ⟨fun vs H Q E h => by obtain ⟨_, _, _, _, _, _, q⟩ := h; exact q.elim, fun A outer s H args us vs Q E _ _ _ _ h => by obtain ⟨_, _, _, _, _, _, q⟩ := h; exact q.elim⟩, hb⟩
  | k + 1, N, lw, gx => by
    refine ⟨fun f x e => ?_, hgl, hbl⟩
    have e' : (ds[f]?).map (·.x) = some x := e
    cases ed : ds[f]? with
    | none => rw [ed] at e'; cases e'
    | some d =>
      rw [ed] at e'
      cases e'
      obtain ⟨t, ⟨fa, fd, F, hm, hb, hgx⟩, ok⟩ := hd f d ed
      have L := lib_at (n := n) hG hd hgl hbl hr k d.N lw gx
      have Fo := fn_okM (n := n) (kk := 2 * k) (Pr := progF X G n ds k) hG F ok L hr hgx
      refine ⟨fa, fd, d.ps, 2 * k + 2, Nat.le_refl _, hm, F.kp, Fo.imp fun vs H Q E h => ?_, hb⟩
      have eF : (progF X G n ds (k + 1)).F f = runF (progF X G n ds k) n d.ps.length d.N.length d.m := by
        funext as δ
        show (match ds[f]? with | some d => runF (progF X G n ds k) n d.ps.length d.N.length d.m as δ | none => .bad) = _
        rw [ed]
      rw [eF] at h
      exact h
end
end Mini

namespace Mini
open PySem PySem.Spec PyProof.Rows L2
theorem noArgs_eq {ps : Arguments} (h : noArgs ps = true) : ps = ⟨[], [], none, [], [], none, []⟩ := by
  unfold noArgs at h
  split at h
  · rfl
  · cases h
def lamQ (x : Str) : Str := (envOfC x ⟨.function, [], false, false, []⟩ 0 0 .none).qual ++ "<lambda>"
section
variable {K : PySem.W.Frag} {Pr : Par} {Er : Errs K Pr.X} {Tb : List (Addr × Str)} {Gv : Nat → V} {prog : Program} {w : World} {mg : Str → Option Value} {base : Heap}
theorem law_okM {kk n : Nat} {b : Nb} {rs : List Str} {ds : List Df} {d : Df} {t tt : Txt} {a : Str} {f ft c P : Addr} {fd fdt : FuncData} (hG : ∀ g C M H, Rep K C M H (Pr.G g) (Gv g)) (F : FunD K d.x d.x t.params t.body t.scope [] [] f fd) (ok : okDf b rs ds true d t = true)
    (L : Lib Pr Er Tb Gv (b.nm ds d.N true false) kk prog w mg base) (hr : ∀ c, c ∈ rs → Rs K mg c (Er.xv c)) (FT : FunD K b.told b.told tt.params tt.body tt.scope [] [] ft fdt) (mT : mg b.told = some (.ref ft)) (bT : Binds K fdt [a] []) (sT : scB [a] [a] tt.scope = true)
    (hT : toldB b.hs a tt.scope tt.body = true) (hva : (a == ("__debug__" : Str)) = false) (hca : (a == ("__classdict__" : Str)) = false) (hdt : (b.told == ("__debug__" : Str)) = false) (hm : ∀ c s, (c, s) ∈ b.hs → mg c = some (Er.xv c)) (TB : LamX.TabB base mg c P) (hcode : fd.code = .ref c) (hmT : (P, lamQ d.x) ∈ Tb) (huT : ∀ p ∈ Tb, p.1 = P → p.2 = lamQ d.x) (ngx : b.gxs.contains d.x = false) :
    FnOk prog w K mg base (L2.CX prog w) (kk + 3) f fd d.ps (spOf Er Tb (runF Pr n d.ps.length d.N.length d.m)) := by
  unfold okDf at ok
  rw [Bool.and_eq_true] at ok
  have S := scB_ok ok.1
  have ST := scB_ok sT
  obtain ⟨oc, od, dV, kV, doc, pm, an, cdv, ct, osl, rfl, lk, hcd, _, _⟩ := F.ex
  obtain ⟨oc2, od2, dV2, kV2, doc2, pm2, an2, cdv2, ct2, osl2, rfl, lk2, hcd2, _, _⟩ := FT.ex
  have hc' : cdv = .ref c := hcode
  subst hc'
  refine fn_of lk hcd S (fun vs H Q E h => spOf_len h) fun A outer s H vs Q E hroom h => ?_
  refine ⟨rdS Pr Er Tb Gv (fun cls d _ H => E cls d H) d.m, ?_, run_ok (snd hG) h⟩
  have L' : Lib (K := (cxOf (L2.CX prog w) prog w K mg base d.N d.x t.scope f (.ref c) A outer s H E).K) Pr Er Tb Gv (b.nm ds d.N true (b.gxs.contains d.x)) kk prog w mg base := ⟨L.fns, L.glb, L.blt⟩
  refine (derS d.m (cxOf (L2.CX prog w) prog w K mg base d.N d.x t.scope f (.ref c) A outer s H E) Er (fun cls d _ H => E cls d H) t.scope true L'
    ⟨⟨rfl, S.nd, rfl, rfl, takes_of rfl rfl rfl rfl, hroom.mono (by omega), (fun _ z => by
      rw [show (b.nm ds d.N true (b.gxs.contains d.x)).gx = b.gxs.contains d.x from rfl, ngx] at z
      cases z), fun _ _ te ps body lsc p lpos pos h1 h2 h3 h4 => ?_⟩, fun _ => rfl, passes_of rfl, S.kind, hr⟩).b t.body ok.2
  have e1 := noArgs_eq h1
  subst e1
  obtain ⟨g1, g2⟩ := gl_of (X := cxOf (L2.CX prog w) prog w K mg base d.N d.x t.scope f (.ref c) A outer s H E) rfl h3
  exact LamX.pe_lamcall (X := cxOf (L2.CX prog w) prog w K mg base d.N d.x t.scope f (.ref c) A outer s H E) (T := Tb) (TT := TTm K Er.xv b.hs) (Ng := [a]) (a := a) (k := kk) (P := P) (c := c) g1 mT FT.kp lk2 hcd2 bT ST rfl ((ST.par a (by simp)).elim .inl fun z => .inr (.inl z))
    (told_gives (X := cxOf (L2.CX prog w) prog w K mg base d.N d.x t.scope f (.ref c) A outer s H E) hT hm fun f => rfl) TB rfl hmT huT hroom (LamX.lamS_by h2) rfl (fun _ _ _ _ _ => rfl) h4 g2 hva hca
end

mutual
def cB (K : PySem.W.Frag) : D → Value → Bool
  | .non, .none => true
  | .bl b, .bool c => b == c
  | .int i, .int j _ => decide (i = j)
  | .str x, .str y _ => decide (x = y)
  | .tup ts, .ref a => (match K.lookup a with
    | some ⟨.type c, _, .seq its _, _⟩ => decide (c = "tuple") && (decide (its.size ≤ sizeLine) && cBL K ts its.toList)
    | _ => false)
  | _, _ => false
def cBL (K : PySem.W.Frag) : List D → List Value → Bool
  | [], [] => true
  | t :: ts, u :: us => cB K t u && cBL K ts us
  | _, _ => false
end
mutual
theorem cB_ok {K : PySem.W.Frag} : ∀ (d : D) (u : Value), cB K d u = true → ∃ v, RelV v u ∧ ∀ C M H, Rep K C M H d v
  | .non, u, h => by
    cases u <;> unfold cB at h <;> first | cases h; done | skip
    exact ⟨.non, rfl, fun _ _ _ => mk_non⟩
  | .bl b, u, h => by
    cases u <;> unfold cB at h <;> first | cases h; done | skip
    rename_i c
    obtain rfl : b = c := by simpa using h
    exact ⟨.bl b, rfl, fun _ _ _ => mk_bl⟩
  | .int b, u, h => by
    cases u <;> unfold cB at h <;> first | cases h; done | skip
    rename_i c _
    obtain rfl : b = c := by simpa using h
    exact ⟨.int b, ⟨_, rfl⟩, fun _ _ _ => mk_int⟩
  | .str b, u, h => by
    cases u <;> unfold cB at h <;> first | cases h; done | skip
    rename_i c _
    obtain rfl : b = c := by simpa using h
    exact ⟨.str b, ⟨_, rfl⟩, fun _ _ _ => mk_str⟩
  | .ty _, u, h => by cases u <;> unfold cB at h <;> cases h
  | .lst _, u, h => by cases u <;> unfold cB at h <;> cases h
  | .own _, u, h => by cases u <;> unfold cB at h <;> cases h
  | .frz _, u, h => by cases u <;> unfold cB at h <;> cases h
  | .cell _, u, h => by cases u <;> unfold cB at h <;> cases h
  | .tup ts, u, h => by
    cases u <;> unfold cB at h <;> first | cases h; done | skip
    case ref a =>
    cases q : K.lookup a with
    | none => rw [q] at h; cases h
    | some o =>
      obtain ⟨oc, od, dt, osl⟩ := o
      rw [q] at h
      cases oc <;> first | cases h; done | skip
      case type c =>
      cases dt <;> first | cases h; done | skip
      case seq its n =>
      have h' : (decide (c = "tuple") && (decide (its.size ≤ sizeLine) && cBL K ts its.toList)) = true := h
      rw [Bool.and_eq_true, Bool.and_eq_true] at h'
      obtain ⟨vs, r1, r2⟩ := cBL_ok ts its.toList h'.2.2
      have ec : c = "tuple" := of_decide_eq_true h'.1
      subst ec
      refine ⟨.ref a, rfl, fun C M H => ?_⟩
      unfold Rep
      exact ⟨a, vs, rfl, .inr ⟨_, its, n, q, rfl, rfl, of_decide_eq_true h'.2.1, r1⟩, r2 C M H⟩
theorem cBL_ok {K : PySem.W.Frag} : ∀ (ds : List D) (us : List Value), cBL K ds us = true → ∃ vs, Vals vs us ∧ ∀ C M H, RepL K C M H ds vs
  | [], us, h => by
    cases us <;> unfold cBL at h <;> first | cases h; done | skip
    exact ⟨[], .nil, fun _ _ _ => repL_nil⟩
  | d :: ds, us, h => by
    cases us <;> unfold cBL at h <;> first | cases h; done | skip
    rw [Bool.and_eq_true] at h
    obtain ⟨v, h1, h2⟩ := cB_ok d _ h.1
    obtain ⟨vs, h3, h4⟩ := cBL_ok ds _ h.2
    exact ⟨v :: vs, .cons h1 h3, fun C M H => repL_cons (h2 C M H) (h4 C M H)⟩
end

structure Job where
  b : Nb
  rs : List Str
  X : List Str
  gs : List (Str × D)
  ds : List Df
  ts : List Txt
  law : Df
  tlaw : Txt
  tt : Txt
  ta : Str
  n : Nat
  k : Nat
def Job.G (J : Job) (g : Nat) : D := match J.gs[g]? with
  | some p => p.2
  | none => .non
def Job.tbs (J : Job) (K : PySem.W.Frag) : List Addr := (J.law.x :: J.b.gxs).map fun x => (He.cT K (x, none)).2
def Job.ex (J : Job) (K : PySem.W.Frag) : Bool := decide (J.tbs K).Nodup && J.gs.all fun p => match PySem.W.nsIn K mainGlobals p.1 with
  | some (some u) => cB K p.2 u
  | _ => false
def defD (x : Str) (t : Txt) : He.DefD := ⟨(x, none), x, x, t.params, t.body, t.scope, [], []⟩
def Job.fn (J : Job) : List He.DefD := (J.ds.zip J.ts).map (fun p => defD p.1.x p.2) ++ [defD J.b.told J.tt, defD J.law.x J.tlaw]
def Job.fa (J : Job) : List He.Fa := J.ds.map (fun d => .glo d.x) ++ [.glo J.b.told, .glo J.law.x] ++ J.b.blts.map .free ++ J.X.map .glo ++ J.rs.map .exc ++ J.X.flatMap fun x => J.X.map fun y => .exm x y (decide (x = y))
def bindB (t : Txt) (ps : List Str) : Prop := ∀ (x : Str) (kV doc pm : Value) (an : Option Addr) (cdv ct : Value) (us : List Value), us.length = ps.length → bindArgs (PySem.W.fnOf x x t.params t.body t.scope .none kV doc pm an cdv ct) ⟨us, []⟩ = pure (ps.zip us)
structure Job.Ok (J : Job) : Prop where
  len : J.ds.length = J.ts.length
  ds : ((J.ds.zip J.ts).all fun p => okDf J.b J.rs J.ds false p.1 p.2) = true
  law : okDf J.b J.rs J.ds true J.law J.tlaw = true
  ps : J.law.ps = [("script" : Str)]
  sT : scB [J.ta] [J.ta] J.tt.scope = true
  hT : toldB J.b.hs J.ta J.tt.scope J.tt.body = true
  hva : (J.ta == ("__debug__" : Str)) = false
  hca : (J.ta == ("__classdict__" : Str)) = false
  hdt : (J.b.told == ("__debug__" : Str)) = false
  gn : J.b.gn = fun g => (J.gs[g]?).map (·.1)
  hsX : ∀ c s, (c, s) ∈ J.b.hs → c ∈ J.X
  rsX : ∀ c, c ∈ J.rs → c ∈ J.X
  ng : J.b.gxs.contains J.law.x = false
  k : 3 * (2 * J.k + 3) + 5 < 900
  bd : ∀ p, p ∈ J.ds.zip J.ts → bindB p.2 p.1.ps
  bt : bindB J.tt [J.ta]
  bl : bindB J.tlaw [("script" : Str)]
def Job.run (J : Job) (ns : List Int) : R D := runF (progF J.X J.G J.n J.ds J.k) J.n 1 J.law.N.length J.law.m [.frz (ns.map .int)] []
section
variable {J : Job} {K : PySem.W.Frag}
theorem repL_ints {C : List Addr} {M : Addr → Prop} {H : Hp} : ∀ ns : List Int, RepL K C M H (ns.map .int) (ns.map V.int)
  | [] => by unfold RepL; rfl
  | n :: ns => by
    unfold RepL
    exact ⟨_, _, rfl, mk_int, repL_ints ns⟩
theorem job_at (o : J.Ok) {l : PySem.W.OpenLaw} {tf : List He.Defn} {w : World} {mg : Str → Option Value} {fa : Addr} {h : Heap} (etf : tf = (J.law.x, none) :: J.b.gxs.map fun x => (x, none))
    (math : ∀ ns : List Int, ns.length ≤ 63 → ∃ δ, J.run ns = .ok (.bl true) δ) (KX : K.In h) (c : He.SaysX J.fa J.fn [] tf J.ex w h K) (G : h.Ns mainGlobals mg) (hmg : mg J.law.x = some (.ref fa)) : LamX.LawAtS l w K (L2.CX l.prog w) (2 * J.k + 3) 63 "script" mg fa h := by
  have sd := He.SaysT.d c.t
  have fact : ∀ {f : He.Fa}, f ∈ J.fa → f.ok K = true := fun hf => He.SaysD.facts sd hf
  have defs : ∀ {x : Str} {t : Txt}, defD x t ∈ J.fn → ∃ fd, FunD K x x t.params t.body t.scope [] [] (He.ga K x) fd := fun hf => He.SaysD.defs sd hf
  have glo : ∀ {x : Str}, He.Fa.glo x ∈ J.fa → mg x = some (.ref (He.ga K x)) := fun hf => He.glo_ok KX G (fact hf)
  have gX : ∀ x, x ∈ J.X → mg x = some (.ref (He.ga K x)) := fun x hx => glo (by unfold Job.fa; simp [hx])
  let Er : Errs K J.X := { xv := fun x => .ref (He.ga K x), xf := fun _ => "", is := fun x hx y hy => He.exm_ok (fact (f := .exm x y (decide (x = y))) (by
    unfold Job.fa
    refine List.mem_append_right _ (List.mem_flatMap.mpr ⟨x, hx, List.mem_map.mpr ⟨y, hy, rfl⟩⟩))) }
  have hrs : ∀ x, x ∈ J.rs → Rs K mg x (Er.xv x) := fun x hx => by
    obtain ⟨e1, e2, e3, e4⟩ := He.exc_ok (fact (f := .exc x) (by unfold Job.fa; simp [hx]))
    exact ⟨⟨_, rfl, gX x (o.rsX x hx), e2, e1, e3, e4⟩⟩
  obtain ⟨fd, F⟩ := defs (x := J.law.x) (t := J.tlaw) (by unfold Job.fn; simp)
  obtain ⟨fdt, FT⟩ := defs (x := J.b.told) (t := J.tt) (by unfold Job.fn; simp)
  have efa : fa = He.ga K J.law.x := by
    have e := hmg.symm.trans (glo (x := J.law.x) (by unfold Job.fa; simp))
    cases e
    rfl
  subst efa
  let Tb : List (Addr × Str) := ((He.cT K (J.law.x, none)).2, lamQ J.law.x) :: J.b.gxs.map fun x => ((He.cT K (x, none)).2, genQ x)
  obtain ⟨hnd, hex⟩ : (J.tbs K).Nodup ∧ (J.gs.all fun p => match PySem.W.nsIn K mainGlobals p.1 with
    | some (some u) => cB K p.2 u
    | _ => false) = true := by
    have := c.more
    unfold Job.ex at this
    rw [Bool.and_eq_true] at this
    exact ⟨of_decide_eq_true this.1, this.2⟩
  have hnd' : ((He.cT K (J.law.x, none)).2 :: J.b.gxs.map fun x => (He.cT K (x, none)).2).Nodup := hnd
  have huL : ∀ p ∈ Tb, p.1 = (He.cT K (J.law.x, none)).2 → p.2 = lamQ J.law.x := fun p hp e => by
    rcases List.mem_cons.mp hp with z | z
    · rw [z]
    · obtain ⟨x, hx, ex⟩ := List.mem_map.mp z
      rw [← ex] at e
      exact absurd (List.mem_map.mpr ⟨x, hx, e⟩) (List.nodup_cons.mp hnd').1
  have huG : ∀ x, x ∈ J.b.gxs → ∀ p ∈ Tb, p.1 = (He.cT K (x, none)).2 → p.2 = genQ x := fun x hx p hp e => by
    rcases List.mem_cons.mp hp with z | z
    · rw [z] at e
      exact absurd (List.mem_map.mpr ⟨x, hx, e.symm⟩) (List.nodup_cons.mp hnd').1
    · obtain ⟨y, hy, ey⟩ := List.mem_map.mp z
      rw [← ey] at e ⊢
      have inj : ∀ (l : List Str) (a b : Str), (l.map fun x => (He.cT K (x, none)).2).Nodup → a ∈ l → b ∈ l → (He.cT K (a, none)).2 = (He.cT K (b, none)).2 → a = b := fun l => by
        induction l with
        | nil => intro a b _ ha; cases ha
        | cons c l ih =>
          intro a b hn ha hb hab
          have hn' := List.nodup_cons.mp hn
          rcases List.mem_cons.mp ha with e1 | h1
          · rcases List.mem_cons.mp hb with e2 | h2
            · rw [e1, e2]
            · exact absurd (List.mem_map.mpr ⟨b, h2, by rw [← hab, e1]⟩ : (He.cT K (c, none)).2 ∈ l.map fun x => (He.cT K (x, none)).2) hn'.1
          · rcases List.mem_cons.mp hb with e2 | h2
            · exact absurd (List.mem_map.mpr ⟨a, h1, by rw [hab, e2]⟩ : (He.cT K (c, none)).2 ∈ l.map fun x => (He.cT K (x, none)).2) hn'.1
            · exact ih a b hn'.2 h1 h2 hab
      rw [inj J.b.gxs y x (List.nodup_cons.mp hnd').2 hy hx e]
  have hd : ∀ base : Heap, (∀ p ∈ tf.map (He.cT K), LamX.TabB base mg p.1 p.2) → ∀ (i : Nat) (d : Df), J.ds[i]? = some d → ∃ t, DfAt K mg (J.b.gxs.contains d.x) Tb base d t ∧ okDf J.b J.rs J.ds false d t = true := fun base TBs i d e => by
    have hi := (List.getElem?_eq_some_iff.mp e).1
    have hi' : i < J.ts.length := by rw [← o.len]; exact hi
    have hz : (J.ds.zip J.ts)[i]? = some (d, J.ts[i]) := by
      rw [List.getElem?_zip_eq_some]
      exact ⟨e, List.getElem?_eq_getElem hi'⟩
    have hm := List.mem_of_getElem? hz
    have hmd := List.mem_of_getElem? e
    obtain ⟨fd2, F2⟩ := defs (x := d.x) (t := J.ts[i]) (by
      unfold Job.fn
      exact List.mem_append_left _ (List.mem_map.mpr ⟨(d, J.ts[i]), hm, rfl⟩))
    refine ⟨J.ts[i], ⟨_, fd2, F2, glo (by unfold Job.fa; simp only [List.mem_append, List.mem_map]; exact .inl (.inl (.inl (.inl (.inl ⟨d, hmd, rfl⟩))))), F2.bindsN (o.bd _ hm d.x), fun hx => ?_⟩, List.all_eq_true.mp o.ds _ hm⟩
    have hx' : d.x ∈ J.b.gxs := by simpa using hx
    obtain ⟨oc, od, dV, kV, doc, pm, an, cdv, ct, osl, efd, lk, hcd, _, _⟩ := id F2.ex
    obtain ⟨c0, ec⟩ := He.codeIn_ref hcd
    have hcode : fd2.code = .ref c0 := by rw [efd]; exact ec
    have eco : He.codeOf K (d.x, none) = c0 := He.codeOf_eq lk hcode
    have hin : (d.x, none) ∈ tf := by rw [etf]; exact List.mem_cons_of_mem _ (List.mem_map.mpr ⟨d.x, hx', rfl⟩)
    have TB := TBs _ (List.mem_map.mpr ⟨_, hin, rfl⟩)
    refine ⟨c0, (He.cT K (d.x, none)).2, ?_, hcode, List.mem_cons_of_mem _ (List.mem_map.mpr ⟨d.x, hx', rfl⟩), huG d.x hx'⟩
    rw [← eco]
    exact TB
  have hall : ∀ g, ∃ v, (∀ C M H, Rep K C M H (J.G g) v) ∧ ∀ x, J.b.gn g = some x → ∃ u, mg x = some u ∧ RelV v u := fun g => by
    unfold Job.G
    cases q : J.gs[g]? with
    | none =>
      refine ⟨.non, fun _ _ _ => mk_non, fun x e => ?_⟩
      rw [o.gn] at e
      have e' : (J.gs[g]?).map (·.1) = some x := e
      rw [q] at e'
      cases e'
    | some p =>
      have hp := List.all_eq_true.mp hex p (List.mem_of_getElem? q)
      have hp' : (match PySem.W.nsIn K mainGlobals p.1 with
        | some (some u) => cB K p.2 u
        | _ => false) = true := hp
      cases e2 : PySem.W.nsIn K mainGlobals p.1 with
      | none => rw [e2] at hp'; cases hp'
      | some r =>
        cases r with
        | none => rw [e2] at hp'; cases hp'
        | some u =>
          rw [e2] at hp'
          obtain ⟨v, h1, h2⟩ := cB_ok _ _ hp'
          refine ⟨v, h2, fun x e => ?_⟩
          rw [o.gn] at e
          have e' : (J.gs[g]?).map (·.1) = some x := e
          rw [q] at e'
          cases e'
          exact ⟨u, PySem.W.mg_of KX G e2, h1⟩
  let Gv : Nat → V := fun g => Classical.choose (hall g)
  have hG : ∀ g C M H, Rep K C M H (J.G g) (Gv g) := fun g => (Classical.choose_spec (hall g)).1
  have hgl : ∀ g x, J.b.gn g = some x → ∃ u, mg x = some u ∧ RelV (Gv g) u := fun g => (Classical.choose_spec (hall g)).2
  have hbl : ∀ x, x ∈ J.b.blts → mg x = none := fun x hx => He.free_ok KX G (fact (f := .free x) (by unfold Job.fa; simp [hx]))
  have hp : (J.law.x, none) ∈ tf := by rw [etf]; simp
  obtain ⟨oc, od, dV, kV, doc, pm, an, cdv, ct, osl, efd, lk, hcd, _, _⟩ := id F.ex
  obtain ⟨c0, ec⟩ := He.codeIn_ref hcd
  have hcode : fd.code = .ref c0 := by rw [efd]; exact ec
  have eco : He.codeOf K (J.law.x, none) = c0 := He.codeOf_eq lk hcode
  have eT : (He.cT K (J.law.x, none)).1 = c0 := by unfold He.cT; exact eco
  have memT : ∀ p ∈ tf.map (He.cT K), ∃ q ∈ tf, p = He.cT K q := fun p hp => by
    obtain ⟨q, hq, e⟩ := List.mem_map.mp hp
    exact ⟨q, hq, e.symm⟩
  refine ⟨fd, tf.map (He.cT K), spOf Er Tb (runF (progF J.X J.G J.n J.ds J.k) J.n J.law.ps.length J.law.N.length J.law.m), ?_, ?_, ?_, fun s u => ?_, ?_, ?_⟩
  · intro p hp'
    obtain ⟨q, hq, rfl⟩ := memT p hp'
    exact c.empty _ hq
  · intro p hp'
    obtain ⟨q, hq, rfl⟩ := memT p hp'
    exact c.out _ hq
  · intro p hp'
    obtain ⟨q, hq, rfl⟩ := memT p hp'
    exact PySem.W.codeHd_of_K KX (c.hd _ hq)
  · exact F.bindsA (ps := [("script" : Str)]) (o.bl J.law.x) s [u] rfl
  · intro H a ns hl _ hTb hS
    obtain ⟨δ, e⟩ := math ns hl
    refine ⟨[], fun _ => False, [.frz (ns.map .int)], [], ⟨fun p hp' => ?_, by simp, rfl, fun a ha => by simp at ha, fun a z => z.elim, fun k ts z => by simp at z⟩, ?_, ?_⟩
    · have hq : ∃ q ∈ tf, p.1 = (He.cT K q).2 := by
        rcases List.mem_cons.mp hp' with z | z
        · exact ⟨_, hp, by rw [z]⟩
        · obtain ⟨x, hx, ex⟩ := List.mem_map.mp z
          refine ⟨(x, none), ?_, by rw [← ex]⟩
          rw [etf]
          exact List.mem_cons_of_mem _ (List.mem_map.mpr ⟨x, hx, rfl⟩)
      obtain ⟨q, hq, e⟩ := hq
      have := hTb (He.cT K q) (List.mem_map.mpr ⟨q, hq, rfl⟩)
      rw [← e] at this
      exact LamX.TabS.nil this
    · unfold RepL
      refine ⟨_, [], rfl, ?_, by unfold RepL; rfl⟩
      have hS' : FzK K [] (fun _ => False) H a (ns.map V.int) := by
        rcases hS with (hS | hS) | hS
        · exact .inr (.inl ⟨fun z => z, by simp, hS⟩)
        · exact .inl hS
        · exact .inr (.inr hS)
      unfold Rep
      exact ⟨a, _, rfl, hS', repL_ints ns⟩
    · have e' : runF (progF J.X J.G J.n J.ds J.k) J.n J.law.ps.length J.law.N.length J.law.m [.frz (ns.map .int)] [] = .ok (.bl true) δ := by
        rw [o.ps]
        exact e
      rw [e']
      intro C' H' _ _
      exact ⟨rfl, fun v r => rep_bl r⟩
  · intro base Kb hns TB
    have TB' := TB (He.cT K (J.law.x, none)) (List.mem_map.mpr ⟨_, hp, rfl⟩)
    rw [eT] at TB'
    have L := lib_at (K := K) (X := J.X) (Er := Er) (Tb := Tb) (Gv := Gv) (prog := l.prog) (w := w) (mg := mg) (base := base) (G := J.G) (n := J.n) (b := J.b) (rs := J.rs) (ds := J.ds) hG (hd base TB) hgl hbl hrs J.k J.law.N true false
    have := law_okM (Pr := progF J.X J.G J.n J.ds J.k) (n := J.n) hG F o.law L hrs FT (glo (by unfold Job.fa; simp)) (FT.bindsN (o.bt J.b.told)) o.sT o.hT o.hva o.hca o.hdt (fun c s h => gX c (o.hsX c s h)) TB' hcode (List.mem_cons_self ..) huL o.ng
    rw [o.ps] at this ⊢
    exact this
end
end Mini

namespace Mini
open PySem L2

section
variable {α β : Type} {a : α} {d : Dl} {f : α → Dl → R β} {g : α → Dl → O} {c : Str} {p : List D} {σ : Sig}
@[simp] theorem bind_ok : (R.ok a d).bind f = f a d := (rfl)
@[simp] theorem bind_ex : (R.ex c p d : R α).bind f = .ex c p d := (rfl)
@[simp] theorem bind_bad : (R.bad : R α).bind f = .bad := (rfl)
@[simp] theorem then_ok : (R.ok a d).then σ g = g a d := (rfl)
@[simp] theorem then_ex : (R.ex c p d : R α).then σ g = .ex c p σ d := (rfl)
@[simp] theorem then_bad : (R.bad : R α).then σ g = .bad := (rfl)
@[simp] theorem noex_ok : (R.ok a d).noex = .ok a d := (rfl)
@[simp] theorem of_some : R.of (some a) d = .ok a d := (rfl)
@[simp] theorem of_none : R.of (none : Option α) d = .bad := (rfl)
end
section
variable {σ : Sig} {δ : Dl} {h : Sig → Dl → O} {x : D} {c : Str} {p : List D}
@[simp] theorem next_nx : (O.nx σ δ).next h = h σ δ := (rfl)
@[simp] theorem next_rt : (O.rt x δ).next h = .rt x δ := (rfl)
@[simp] theorem next_ex : (O.ex c p σ δ).next h = .ex c p σ δ := (rfl)
@[simp] theorem next_bk : (O.bk σ δ).next h = .bk σ δ := (rfl)
@[simp] theorem next_ct : (O.ct σ δ).next h = .ct σ δ := (rfl)
@[simp] theorem next_bad : (O.bad).next h = .bad := (rfl)
end
@[simp] theorem val_v (v : Sig → Dl → R D) : (Ev.val v).v = v := (rfl)
@[simp] theorem val_t (v : Sig → Dl → R D) (σ : Sig) (δ : Dl) : (Ev.val v).t σ δ = (v σ δ).bind fun x δ => R.of (truthD x) δ := (rfl)
@[simp] theorem val_o (v : Sig → Dl → R D) (σ : Sig) (δ : Dl) : (Ev.val v).o σ δ = (v σ δ).bind fun x δ => (R.of (intOf x) δ).bind fun i δ => .ok (some i) δ := (rfl)
@[simp] theorem tst_v (v : Sig → Dl → R D) (t : Sig → Dl → R Bool) : (Ev.tst v t).v = v := (rfl)
@[simp] theorem tst_t (v : Sig → Dl → R D) (t : Sig → Dl → R Bool) : (Ev.tst v t).t = t := (rfl)
@[simp] theorem arg_a (v : Sig → Dl → R (List D)) : (Ev.arg v).a = v := (rfl)
@[simp] theorem ofB_v (b : Sig → Dl → R Bool) (σ : Sig) (δ : Dl) : (Ev.ofB b).v σ δ = (b σ δ).bind fun k δ => .ok (.bl k) δ := (rfl)
@[simp] theorem ofB_t (b : Sig → Dl → R Bool) : (Ev.ofB b).t = b := (rfl)
section
variable (P : Par)
@[simp] theorem ev_var (i : Nat) : evA' P (.var i) = .val fun σ δ => match σ[i]? with
    | some (some d) => .ok d δ
    | _ => .bad := (rfl)
@[simp] theorem ev_int (i : Int) : evA' P (.int i) = .val fun _ δ => .ok (.int i) δ := (rfl)
@[simp] theorem ev_bl (b : Bool) : evA' P (.bl b) = .val fun _ δ => .ok (.bl b) δ := (rfl)
@[simp] theorem ev_non : evA' P .non = .val fun _ δ => .ok .non δ := (rfl)
@[simp] theorem ev_str (s : Str) : evA' P (.str s) = .val fun _ δ => .ok (.str s) δ := (rfl)
@[simp] theorem ev_ty (n : String) : evA' P (.ty n) = .val fun _ δ => .ok (.ty n) δ := (rfl)
@[simp] theorem ev_glob (g : Nat) : evA' P (.glob g) = .val fun _ δ => .ok (P.G g) δ := (rfl)
@[simp] theorem ev_bin (o : Operator) (a b : E) : evA' P (.bin o a b) = .val fun σ δ => ((evA' P a).v σ δ).bind fun x δ => ((evA' P b).v σ δ).bind fun y δ => R.of (binD o x y) δ := (rfl)
@[simp] theorem ev_neg (a : E) : evA' P (.neg a) = .val fun σ δ => ((evA' P a).v σ δ).bind fun x δ => R.of (negD x) δ := (rfl)
@[simp] theorem ev_cmp (o : CmpOp) (a b : E) : evA' P (.cmp o a b) = .ofB fun σ δ => ((evA' P a).v σ δ).bind fun x δ => ((evA' P b).v σ δ).bind fun y δ => R.of (cmpD o x y) δ := (rfl)
@[simp] theorem ev_chain (o o' : CmpOp) (a b c : E) : evA' P (.chain o o' a b c) = .ofB fun σ δ => ((evA' P a).v σ δ).bind fun x δ => ((evA' P b).v σ δ).bind fun y δ => (R.of (cmpD o x y) δ).bind fun k δ =>
      if k then ((evA' P c).v σ δ).bind fun z δ => R.of (cmpD o' y z) δ else .ok false δ := (rfl)
@[simp] theorem ev_and (a b : E) : evA' P (.and a b) = .tst (fun σ δ => ((evA' P a).v σ δ).bind fun x δ => (R.of (truthD x) δ).bind fun k δ => if k then (evA' P b).v σ δ else .ok x δ)
      fun σ δ => ((evA' P a).t σ δ).bind fun k δ => if k then (evA' P b).t σ δ else .ok false δ := (rfl)
@[simp] theorem ev_or (a b : E) : evA' P (.or a b) = .tst (fun σ δ => ((evA' P a).v σ δ).bind fun x δ => (R.of (truthD x) δ).bind fun k δ => if k then .ok x δ else (evA' P b).v σ δ)
      fun σ δ => ((evA' P a).t σ δ).bind fun k δ => if k then .ok true δ else (evA' P b).t σ δ := (rfl)
@[simp] theorem ev_not (a : E) : evA' P (.not a) = .tst (fun σ δ => ((evA' P a).v σ δ).bind fun x δ => (R.of (truthD x) δ).bind fun k δ => .ok (.bl (!k)) δ)
      fun σ δ => ((evA' P a).t σ δ).bind fun k δ => .ok (!k) δ := (rfl)
@[simp] theorem ev_ite (c a b : E) : evA' P (.ite c a b) = .tst (fun σ δ => ((evA' P c).t σ δ).bind fun k δ => if k then (evA' P a).v σ δ else (evA' P b).v σ δ) fun _ _ => .bad := (rfl)
@[simp] theorem ev_tup (a : E) : evA' P (.tup a) = .val fun σ δ => ((evA' P a).a σ δ).bind (seqE .tup) := (rfl)
@[simp] theorem ev_lst (a : E) : evA' P (.lst a) = .val fun σ δ => ((evA' P a).a σ δ).bind (seqE .lst) := (rfl)
@[simp] theorem ev_cnt (a b : E) : evA' P (.cnt a b) = .val fun σ δ => ((evA' P a).v σ δ).bind fun x δ => if (mlst x).isSome then ((evA' P b).v σ δ).bind fun y δ => R.of (cntD x y) δ else .bad := (rfl)
@[simp] theorem ev_idx (a i : E) : evA' P (.idx a i) = .val fun σ δ => ((evA' P a).v σ δ).bind fun x δ => ((evA' P i).v σ δ).bind fun y δ => R.of (idxD δ x y) δ := (rfl)
@[simp] theorem ev_slc (a lo hi : E) : evA' P (.slc a lo hi) = .val fun σ δ => ((evA' P a).v σ δ).bind fun x δ => ((evA' P lo).o σ δ).bind fun l δ => ((evA' P hi).o σ δ).bind fun h δ => R.of (slcD δ x l h) δ := (rfl)
@[simp] theorem ev_call (f : Nat) (a : E) : evA' P (.call f a) = .val fun σ δ => ((evA' P a).a σ δ).bind (callE P f) := (rfl)
@[simp] theorem ev_blt (b : Blt) (a : E) : evA' P (.blt b a) = .val fun σ δ => ((evA' P a).a σ δ).bind fun ds δ => R.of (bltD δ b ds) δ := (rfl)
@[simp] theorem ev_lc (vs : List Nat) (g : G) (k : IK) (it c e : E) : evA' P (.lc vs g k it c e) = .val fun σ δ => ((evA' P it).a σ δ).bind fun ds δ => match itemsD δ k ds with
    | none => .bad
    | some xs => if decide (1000000 < xs.length) || !((gSlots g).all fun i => vs.contains i) then .bad else
      (lcGo g (evA' P c).t (evA' P e).v (wipeD σ vs) xs δ).bind fun ys δ => .ok (.lst ys) δ := (rfl)
@[simp] theorem ev_gx (b : Bool) (vs : List Nat) (g : G) (k : IK) (it c e : E) : evA' P (.gx b vs g k it c e) = .val fun σ δ => ((evA' P it).a σ δ).bind fun ds δ => match itemsD δ k ds with
    | none => .bad
    | some xs => if decide (1000000 < xs.length) || !((gSlots g).all fun i => vs.contains i) then .bad else
      (gxGo b g (evA' P c).t (evA' P e).v (wipeD σ vs) xs δ).bind fun r δ => .ok (.bl r) δ := (rfl)
@[simp] theorem ev_newc (a : E) : evA' P (.newc a) = .tst (fun σ δ => if isFresh a then ((evA' P a).v σ δ).bind fun d δ => match d with
      | .lst ts => .ok (.cell δ.length) (δ ++ [ts])
      | _ => .bad
    else .bad) fun _ _ => .bad := (rfl)
@[simp] theorem ev_scope (a : E) : evA' P (.scope a) = .tst (fun σ δ => scopeE δ.length ((evA' P a).v σ δ)) fun _ _ => .bad := (rfl)
@[simp] theorem ev_lend (i : Nat) (a : E) : evA' P (.lend i a) = .tst (fun σ δ => match ownAt σ i with
      | some ts => lendE (isFresh a) ((evA' P a).v (σ.set i (some (.lst ts))) δ)
      | none => .bad) fun σ δ => match ownAt σ i with
      | some ts => lendT ((evA' P a).t (σ.set i (some (.lst ts))) δ)
      | none => .bad := (rfl)
@[simp] theorem ev_told (hs : List (Str × Str)) (a : E) : evA' P (.told hs a) = .val fun σ δ => toldE P.X hs ((evA' P a).v σ δ) := (rfl)
@[simp] theorem ev_nil : evA' P .nil = .arg fun _ δ => .ok [] δ := (rfl)
@[simp] theorem ev_cons (a b : E) : evA' P (.cons a b) = .arg fun σ δ => ((evA' P a).v σ δ).bind fun x δ => ((evA' P b).a σ δ).bind fun xs δ => .ok (x :: xs) δ := (rfl)
@[simp] theorem ev_np : evA' P .np = { v := fun _ _ => .bad, t := fun _ δ => .ok true δ, o := fun _ δ => .ok none δ, a := fun _ _ => .bad } := (rfl)
@[simp] theorem seqE_eq (k : List D → D) (ds : List D) (δ : Dl) (h : ds.any isOwn = false) (h2 : ds.length ≤ 1000) : seqE k ds δ = .ok (k ds) δ := by
  unfold seqE
  rw [h]
  simp [show ¬ 1000 < ds.length by omega]
variable (n : Nat)
@[simp] theorem ev_skip (σ : Sig) (δ : Dl) : evS P n .skip σ δ = .nx σ δ := (rfl)
@[simp] theorem ev_pass (σ : Sig) (δ : Dl) : evS P n .pass σ δ = .nx σ δ := (rfl)
@[simp] theorem ev_seq (a b : S) (σ : Sig) (δ : Dl) : evS P n (.seq a b) σ δ = (evS P n a σ δ).next (evS P n b) := (rfl)
@[simp] theorem ev_expr (e : E) (σ : Sig) (δ : Dl) : evS P n (.expr e) σ δ = R.then ((evA' P e).v σ δ) σ fun _ δ => .nx σ δ := (rfl)
@[simp] theorem ev_asg (g : G) (e : E) (σ : Sig) (δ : Dl) : evS P n (.asg g e) σ δ = R.then ((evA' P e).v σ δ) σ fun d δ => match setG g d σ with
    | some σ => .nx σ δ
    | none => .bad := (rfl)
@[simp] theorem ev_asgO (i : Nat) (e : E) (σ : Sig) (δ : Dl) : evS P n (.asgO i e) σ δ = R.then ((evA' P e).v σ δ) σ fun d δ => match d with
    | .lst ts => if isFresh e then .nx (σ.set i (some (.own ts))) δ else .bad
    | _ => .bad := (rfl)
@[simp] theorem ev_par (is : List (Nat × Bool)) (a : E) (σ : Sig) (δ : Dl) : evS P n (.par is a) σ δ = if decide ((is.map (·.1)).Nodup) then parGo P σ is a σ δ else .bad := (rfl)
@[simp] theorem ev_asgT (is : List (Nat × Bool)) (a : E) (σ : Sig) (δ : Dl) : evS P n (.asgT is a) σ δ = if decide ((is.map (·.1)).Nodup) && decide (is.length ≤ 1000) then parGo P σ is a σ δ else .bad := (rfl)
@[simp] theorem ev_setx (o ix e : E) (σ : Sig) (δ : Dl) : evS P n (.setx o ix e) σ δ = (match o with
    | .var i => match σ[i]? with
      | some (some (.own ts)) => R.then ((evA' P e).v σ δ) σ fun d δ => R.then ((evA' P ix).v σ δ) σ fun x δ => match intOf x with
        | some z => (match ixN ts.length z with
          | some j => if isOwn d then .bad else .nx (σ.set i (some (.own (ts.set j d)))) δ
          | none => .bad)
        | none => .bad
      | some (some (.cell k)) => R.then ((evA' P e).v σ δ) σ fun d δ => R.then ((evA' P ix).v σ δ) σ fun x δ => match intOf x, δ[k]? with
        | some z, some ts => (match ixN ts.length z with
          | some j => if isOwn d then .bad else .nx σ (δ.set k (ts.set j d))
          | none => .bad)
        | _, _ => .bad
      | _ => .bad
    | _ => .bad) := (rfl)
@[simp] theorem ev_aug (i : Nat) (o : Operator) (e : E) (σ : Sig) (δ : Dl) : evS P n (.aug i o e) σ δ = R.then ((evA' P (.var i)).v σ δ) σ fun x δ => R.then ((evA' P e).v σ δ) σ fun y δ => match augD o x y with
    | some z => .nx (σ.set i (some z)) δ
    | none => .bad := (rfl)
@[simp] theorem ev_app (i : Nat) (e : E) (σ : Sig) (δ : Dl) : evS P n (.app i e) σ δ = (match ownAt σ i with
    | some ts => R.then ((evA' P e).v σ δ) σ fun d δ => if isOwn d || decide (1000000 < ts.length) then .bad else .nx (σ.set i (some (.own (ts ++ [d])))) δ
    | none => .bad) := (rfl)
@[simp] theorem ev_ext (i : Nat) (e : E) (σ : Sig) (δ : Dl) : evS P n (.ext i e) σ δ = (match ownAt σ i with
    | some ts => R.then ((evA' P e).v σ δ) σ fun d δ => match d with
      | .lst us => if decide (1000000 < ts.length + us.length) then .bad else .nx (σ.set i (some (.own (ts ++ us)))) δ
      | _ => .bad
    | none => .bad) := (rfl)
@[simp] theorem ev_pop (i : Nat) (σ : Sig) (δ : Dl) : evS P n (.pop i) σ δ = (match ownAt σ i with
    | some ts => if ts.isEmpty then .bad else .nx (σ.set i (some (.own ts.dropLast))) δ
    | none => .bad) := (rfl)
@[simp] theorem ev_if (c : E) (a b : S) (σ : Sig) (δ : Dl) : evS P n (.ite c a b) σ δ = R.then ((evA' P c).t σ δ) σ fun k δ => if k then evS P n a σ δ else evS P n b σ δ := (rfl)
@[simp] theorem ev_whl (c : E) (b : S) (σ : Sig) (δ : Dl) : evS P n (.whl c b) σ δ = whlGo (evA' P c).t (evS P n b) n σ δ := (rfl)
@[simp] theorem ev_for (g : G) (k : IK) (it : E) (b : S) (σ : Sig) (δ : Dl) : evS P n (.for g k it b) σ δ = R.then ((evA' P it).a σ δ) σ fun ds δ => match itemsD δ k ds with
    | some xs => forGo g (evS P n b) xs σ δ
    | none => .bad := (rfl)
@[simp] theorem ev_ret (e : E) (σ : Sig) (δ : Dl) : evS P n (.ret e) σ δ = R.then ((evA' P e).v σ δ) σ fun d δ => if isOwn d then (if isVar e then .rt (demote d) δ else .bad) else .rt d δ := (rfl)
@[simp] theorem ev_retN (σ : Sig) (δ : Dl) : evS P n .retN σ δ = .rt .non δ := (rfl)
@[simp] theorem ev_rais (c : Str) (σ : Sig) (δ : Dl) : evS P n (.rais c) σ δ = if P.X.contains c then .ex c [] σ δ else .bad := (rfl)
@[simp] theorem ev_brk (σ : Sig) (δ : Dl) : evS P n .brk σ δ = .bk σ δ := (rfl)
@[simp] theorem ev_cont (σ : Sig) (δ : Dl) : evS P n .cont σ δ = .ct σ δ := (rfl)
@[simp] theorem ev_frz (i : Nat) (s : S) (σ : Sig) (δ : Dl) : evS P n (.frz i s) σ δ = (match ownAt σ i with
    | some ts => evS P n s (σ.set i (some (.lst ts))) δ
    | none => .bad) := (rfl)
@[simp] theorem par_nil (σ₀ σ : Sig) (δ : Dl) : parGo P σ₀ [] .nil σ δ = .nx σ δ := (rfl)
@[simp] theorem par_cons (σ₀ : Sig) (i : Nat) (w : Bool) (is : List (Nat × Bool)) (a b : E) (σ : Sig) (δ : Dl) : parGo P σ₀ ((i, w) :: is) (.cons a b) σ δ = R.then ((evA' P a).v σ₀ δ) σ₀ fun d δ => match w, d with
    | false, d => if isOwn d then .bad else parGo P σ₀ is b (σ.set i (some d)) δ
    | true, .lst ts => if isFresh a then parGo P σ₀ is b (σ.set i (some (.own ts))) δ else .bad
    | true, _ => .bad := (rfl)
end
@[simp] theorem isOwn_int (i : Int) : isOwn (.int i) = false := (rfl)
@[simp] theorem isOwn_bl (i : Bool) : isOwn (.bl i) = false := (rfl)
@[simp] theorem isOwn_str (i : Str) : isOwn (.str i) = false := (rfl)
@[simp] theorem isOwn_non : isOwn .non = false := (rfl)
@[simp] theorem isOwn_ty (i : String) : isOwn (.ty i) = false := (rfl)
@[simp] theorem isOwn_tup (i : List D) : isOwn (.tup i) = false := (rfl)
@[simp] theorem isOwn_lst (i : List D) : isOwn (.lst i) = false := (rfl)
@[simp] theorem isOwn_frz (i : List D) : isOwn (.frz i) = false := (rfl)
@[simp] theorem isOwn_cell (i : Nat) : isOwn (.cell i) = false := (rfl)
@[simp] theorem isOwn_own (i : List D) : isOwn (.own i) = true := (rfl)
@[simp] theorem demote_own (i : List D) : demote (.own i) = .lst i := (rfl)
theorem demote_no {d : D} (h : isOwn d = false) : demote d = d := by cases d <;> first | rfl | cases h
theorem demote_all : ∀ {ds : List D}, ds.any isOwn = false → ds.map demote = ds
  | [], _ => rfl
  | d :: ds, h => by
    rw [List.any_cons, Bool.or_eq_false_iff] at h
    rw [List.map_cons, demote_no h.1, demote_all h.2]
@[simp] theorem setG_name (i : Nat) (d : D) (σ : Sig) : setG (.name i) d σ = if isOwn d then none else some (σ.set i (some d)) := (rfl)
@[simp] theorem setG_tup (is : List Nat) (ds : List D) (σ : Sig) : setG (.tup is) (.tup ds) σ = setMany is ds σ := (rfl)
@[simp] theorem setG_lst (is : List Nat) (ds : List D) (σ : Sig) : setG (.tup is) (.lst ds) σ = setMany is ds σ := (rfl)
@[simp] theorem setMany_nil (σ : Sig) : setMany [] [] σ = some σ := (rfl)
@[simp] theorem setMany_cons (i : Nat) (is : List Nat) (d : D) (ds : List D) (σ : Sig) : setMany (i :: is) (d :: ds) σ = if isOwn d then none else setMany is ds (σ.set i (some d)) := (rfl)
@[simp] theorem wipe_nil (σ : Sig) : wipeD σ [] = σ := (rfl)
@[simp] theorem wipe_cons (σ : Sig) (v : Nat) (vs : List Nat) : wipeD σ (v :: vs) = (wipeD σ vs).set v none := (rfl)
@[simp] theorem gSl_name (i : Nat) : gSlots (.name i) = [i] := (rfl)
@[simp] theorem gSl_tup (is : List Nat) : gSlots (.tup is) = is := (rfl)
@[simp] theorem fr_lst (a : E) : isFresh (.lst a) = true := (rfl)
@[simp] theorem fr_lc (vs : List Nat) (g : G) (k : IK) (it c e : E) : isFresh (.lc vs g k it c e) = true := (rfl)
@[simp] theorem fr_slc (a b c : E) : isFresh (.slc a b c) = true := (rfl)
@[simp] theorem fr_list (a : E) : isFresh (.blt .list a) = true := (rfl)
@[simp] theorem fr_mul (a b : E) : isFresh (.bin .Mult a b) = true := (rfl)
@[simp] theorem fr_add (a b : E) : isFresh (.bin .Add a b) = true := (rfl)
@[simp] theorem fr_lend (i : Nat) (a : E) : isFresh (.lend i a) = isFresh a := (rfl)
@[simp] theorem isVar_var (i : Nat) : isVar (.var i) = true := (rfl)
@[simp] theorem ownAt_eq (σ : Sig) (i : Nat) : ownAt σ i = (match σ[i]? with
  | some (some (.own ts)) => some ts
  | _ => none) := (rfl)
@[simp] theorem intOf_int (i : Int) : intOf (.int i) = some i := (rfl)
@[simp] theorem tr_int (i : Int) : truthD (.int i) = some (i != 0) := (rfl)
@[simp] theorem tr_bl (i : Bool) : truthD (.bl i) = some i := (rfl)
@[simp] theorem tr_non : truthD .non = some false := (rfl)
@[simp] theorem tr_tup (ts : List D) : truthD (.tup ts) = some (!ts.isEmpty) := (rfl)
@[simp] theorem tr_lst (ts : List D) : truthD (.lst ts) = some (!ts.isEmpty) := (rfl)
@[simp] theorem tr_own (ts : List D) : truthD (.own ts) = some (!ts.isEmpty) := (rfl)
@[simp] theorem bin_add (i j : Int) : binD .Add (.int i) (.int j) = some (.int (i + j)) := (rfl)
@[simp] theorem bin_sub (i j : Int) : binD .Sub (.int i) (.int j) = some (.int (i - j)) := (rfl)
@[simp] theorem bin_subB (a b : Bool) : binD .Sub (.bl a) (.bl b) = some (.int ((if a = true then (1 : Int) else 0) - (if b = true then (1 : Int) else 0))) := (rfl)
@[simp] theorem bin_mod (i j : Int) : binD .Mod (.int i) (.int j) = if j = 0 then none else some (.int (i.fmod j)) := (rfl)
theorem bin_mul (i j : Int) : binD .Mult (.int i) (.int j) = if mulOk i j then some (.int (i * j)) else none := (rfl)
theorem bin_rep (a : List D) (j : Int) : binD .Mult (.lst a) (.int j) = if repOk a.length j then some (.lst (List.replicate j.toNat a).flatten) else none := (rfl)
theorem bin_div (i j : Int) : binD .FloorDiv (.int i) (.int j) = if divOk j then some (.int (i.fdiv j)) else none := (rfl)
theorem bin_pow (i j : Int) : binD .Pow (.int i) (.int j) = if powOk i j then some (.int (i ^ j.toNat)) else none := (rfl)
@[simp] theorem aug_add (i j : Int) : augD .Add (.int i) (.int j) = some (.int (i + j)) := (rfl)
@[simp] theorem aug_sub (i j : Int) : augD .Sub (.int i) (.int j) = some (.int (i - j)) := (rfl)
@[simp] theorem neg_int (i : Int) : negD (.int i) = some (.int (-i)) := (rfl)
theorem mulOk_big {i j : Int} (h1 : i.natAbs < big) (h2 : j.natAbs < big) : mulOk i j = true := by
  unfold mulOk
  rw [decide_eq_true h1, decide_eq_true h2]
  simp
theorem mulOk_r {i j : Int} (h : small j = true) : mulOk i j = true := by
  unfold mulOk
  rw [h]; simp
theorem divOk_of {j : Int} (h : j ≠ 0) (h2 : j.natAbs < big) : divOk j = true := by
  unfold divOk
  rw [decide_eq_true h, decide_eq_true h2]; rfl
theorem big_eq : big = 2 ^ 8990 := (rfl)
theorem big_ge : 2 ^ 4000 ≤ big := by rw [big_eq]; exact Nat.pow_le_pow_right (by omega) (by omega)
@[simp] theorem cmp_lt (i j : Int) : cmpD .Lt (.int i) (.int j) = some (decide (i < j)) := (rfl)
@[simp] theorem cmp_le (i j : Int) : cmpD .LtE (.int i) (.int j) = some (decide (i ≤ j)) := (rfl)
@[simp] theorem cmp_gt (i j : Int) : cmpD .Gt (.int i) (.int j) = some (decide (j < i)) := (rfl)
@[simp] theorem cmp_ge (i j : Int) : cmpD .GtE (.int i) (.int j) = some (decide (j ≤ i)) := (rfl)
@[simp] theorem cmp_is (a : D) : cmpD .Is a .non = some (isNonD a) := by cases a <;> rfl
@[simp] theorem cmp_isnot (a : D) : cmpD .IsNot a .non = some (!isNonD a) := by cases a <;> rfl
@[simp] theorem cmp_eq (a b : D) : cmpD .Eq a b = eqD a b := by cases a <;> cases b <;> rfl
@[simp] theorem cmp_ne (a b : D) : cmpD .NotEq a b = (eqD a b).map (!·) := by cases a <;> cases b <;> rfl
mutual
def plain : Nat → D → Bool
  | _, .non => true
  | _, .bl _ => true
  | _, .int _ => true
  | _, .str s => PyData.strOk s
  | k + 1, .tup ts => plainL k ts
  | k + 1, .lst ts => plainL k ts
  | k + 1, .own ts => plainL k ts
  | k + 1, .frz ts => plainL k ts
  | _, _ => false
def plainL : Nat → List D → Bool
  | _, [] => true
  | k, t :: ts => plain k t && plainL k ts
end
mutual
def deqv : D → D → Bool
  | .non, b => (match b with
    | .non => true
    | _ => false)
  | .bl a, b => (match b with
    | .bl c => a == c
    | .int j => (if a then 1 else 0) == j
    | _ => false)
  | .int i, b => (match b with
    | .bl c => i == (if c then 1 else 0)
    | .int j => i == j
    | _ => false)
  | .str x, b => (match b with
    | .str y => x == y
    | _ => false)
  | .tup ts, b => (match b with
    | .tup us => deqvL ts us
    | _ => false)
  | .lst ts, b => (match b with
    | .lst us => deqvL ts us
    | .own us => deqvL ts us
    | .frz us => deqvL ts us
    | _ => false)
  | .own ts, b => (match b with
    | .lst us => deqvL ts us
    | .own us => deqvL ts us
    | .frz us => deqvL ts us
    | _ => false)
  | .frz ts, b => (match b with
    | .lst us => deqvL ts us
    | .own us => deqvL ts us
    | .frz us => deqvL ts us
    | _ => false)
  | .ty _, _ => false
  | .cell _, _ => false
def deqvL : List D → List D → Bool
  | [], us => us.isEmpty
  | t :: ts, us => (match us with
    | u :: us => deqv t u && deqvL ts us
    | [] => false)
end
mutual
theorem dat_plain : ∀ (d : D) (k : Nat), plain k d = true → ∃ x, dat d = some x ∧ x.canLay0 = true ∧ x.depth ≤ k
  | .non, k, h => ⟨.none, by unfold dat; rfl, by unfold PyData.canLay0; rfl, by unfold PyData.depth; omega⟩
  | .bl b, k, h => ⟨.bool b, by unfold dat; rfl, by unfold PyData.canLay0; rfl, by unfold PyData.depth; omega⟩
  | .int b, k, h => ⟨.int b, by unfold dat; rfl, by unfold PyData.canLay0; rfl, by unfold PyData.depth; omega⟩
  | .str s, k, h => ⟨.str s, by unfold dat; rfl, by unfold PyData.canLay0; unfold plain at h; exact h, by unfold PyData.depth; omega⟩
  | .ty s, k, h => by cases k <;> (unfold plain at h; cases h)
  | .cell s, k, h => by cases k <;> (unfold plain at h; cases h)
  | .tup ts, 0, h => by unfold plain at h; cases h
  | .lst ts, 0, h => by unfold plain at h; cases h
  | .own ts, 0, h => by unfold plain at h; cases h
  | .frz ts, 0, h => by unfold plain at h; cases h
  | .tup ts, k + 1, h => by
    unfold plain at h
    obtain ⟨xs, h1, h2, h3⟩ := datL_plain ts k h
    exact ⟨.tuple xs, by unfold dat; rw [h1]; rfl, by unfold PyData.canLay0; exact h2, by unfold PyData.depth; omega⟩
  | .lst ts, k + 1, h => by
    unfold plain at h
    obtain ⟨xs, h1, h2, h3⟩ := datL_plain ts k h
    exact ⟨.list xs, by unfold dat; rw [h1]; rfl, by unfold PyData.canLay0; exact h2, by unfold PyData.depth; omega⟩
  | .own ts, k + 1, h => by
    unfold plain at h
    obtain ⟨xs, h1, h2, h3⟩ := datL_plain ts k h
    exact ⟨.list xs, by unfold dat; rw [h1]; rfl, by unfold PyData.canLay0; exact h2, by unfold PyData.depth; omega⟩
  | .frz ts, k + 1, h => by
    unfold plain at h
    obtain ⟨xs, h1, h2, h3⟩ := datL_plain ts k h
    exact ⟨.list xs, by unfold dat; rw [h1]; rfl, by unfold PyData.canLay0; exact h2, by unfold PyData.depth; omega⟩
theorem datL_plain : ∀ (ds : List D) (k : Nat), plainL k ds = true → ∃ xs, datL ds = some xs ∧ PyData.canLayAll0 xs = true ∧ PyData.depthAll xs ≤ k
  | [], k, h => ⟨[], by unfold datL; rfl, by unfold PyData.canLayAll0; rfl, by unfold PyData.depthAll; omega⟩
  | d :: ds, k, h => by
    unfold plainL at h
    rw [Bool.and_eq_true] at h
    obtain ⟨x, h1, h2, h3⟩ := dat_plain d k h.1
    obtain ⟨xs, g1, g2, g3⟩ := datL_plain ds k h.2
    exact ⟨x :: xs, by unfold datL; rw [h1, g1], by unfold PyData.canLayAll0; rw [h2, g2]; rfl, by unfold PyData.depthAll; omega⟩
end
mutual
theorem eqv_dat : ∀ (a b : D) (x y : PyData), dat a = some x → dat b = some y → x.eqv y = deqv a b
  | .ty s, b, x, y, h, _ => by unfold dat at h; cases h
  | .cell s, b, x, y, h, _ => by unfold dat at h; cases h
  | .non, b, x, y, h, g => by
    unfold dat at h
    cases h
    cases b <;> simp only [dat, Option.map_eq_some_iff] at g <;> first | (cases g; done) | (cases g; simp only [PyData.eqv, deqv]; done) | (obtain ⟨z, _, rfl⟩ := g; simp only [PyData.eqv, deqv])
  | .bl _, b, x, y, h, g => by
    unfold dat at h
    cases h
    cases b <;> simp only [dat, Option.map_eq_some_iff] at g <;> first | (cases g; done) | (cases g; simp only [PyData.eqv, deqv]; done) | (obtain ⟨z, _, rfl⟩ := g; simp only [PyData.eqv, deqv])
  | .int _, b, x, y, h, g => by
    unfold dat at h
    cases h
    cases b <;> simp only [dat, Option.map_eq_some_iff] at g <;> first | (cases g; done) | (cases g; simp only [PyData.eqv, deqv]; done) | (obtain ⟨z, _, rfl⟩ := g; simp only [PyData.eqv, deqv])
  | .str _, b, x, y, h, g => by
    unfold dat at h
    cases h
    cases b <;> simp only [dat, Option.map_eq_some_iff] at g <;> first | (cases g; done) | (cases g; simp only [PyData.eqv, deqv]; done) | (obtain ⟨z, _, rfl⟩ := g; simp only [PyData.eqv, deqv])
  | .tup ts, b, x, y, h, g => by
    unfold dat at h
    rw [Option.map_eq_some_iff] at h
    obtain ⟨xs, h1, rfl⟩ := h
    cases b <;> simp only [dat, Option.map_eq_some_iff] at g <;> first | (cases g; done) | (cases g; simp only [PyData.eqv, deqv]; done) | (obtain ⟨z, g1, rfl⟩ := g; simp only [PyData.eqv, deqv]; done) | (obtain ⟨z, g1, rfl⟩ := g; simp only [PyData.eqv, deqv]; exact eqvAll_dat ts _ xs z h1 g1)
  | .lst ts, b, x, y, h, g => by
    unfold dat at h
    rw [Option.map_eq_some_iff] at h
    obtain ⟨xs, h1, rfl⟩ := h
    cases b <;> simp only [dat, Option.map_eq_some_iff] at g <;> first | (cases g; done) | (cases g; simp only [PyData.eqv, deqv]; done) | (obtain ⟨z, g1, rfl⟩ := g; simp only [PyData.eqv, deqv]; done) | (obtain ⟨z, g1, rfl⟩ := g; simp only [PyData.eqv, deqv]; exact eqvAll_dat ts _ xs z h1 g1)
  | .own ts, b, x, y, h, g => by
    unfold dat at h
    rw [Option.map_eq_some_iff] at h
    obtain ⟨xs, h1, rfl⟩ := h
    cases b <;> simp only [dat, Option.map_eq_some_iff] at g <;> first | (cases g; done) | (cases g; simp only [PyData.eqv, deqv]; done) | (obtain ⟨z, g1, rfl⟩ := g; simp only [PyData.eqv, deqv]; done) | (obtain ⟨z, g1, rfl⟩ := g; simp only [PyData.eqv, deqv]; exact eqvAll_dat ts _ xs z h1 g1)
  | .frz ts, b, x, y, h, g => by
    unfold dat at h
    rw [Option.map_eq_some_iff] at h
    obtain ⟨xs, h1, rfl⟩ := h
    cases b <;> simp only [dat, Option.map_eq_some_iff] at g <;> first | (cases g; done) | (cases g; simp only [PyData.eqv, deqv]; done) | (obtain ⟨z, g1, rfl⟩ := g; simp only [PyData.eqv, deqv]; done) | (obtain ⟨z, g1, rfl⟩ := g; simp only [PyData.eqv, deqv]; exact eqvAll_dat ts _ xs z h1 g1)
theorem eqvAll_dat : ∀ (as bs : List D) (xs ys : List PyData), datL as = some xs → datL bs = some ys → PyData.eqvAll xs ys = deqvL as bs
  | [], [], xs, ys, h, g => by
    unfold datL at h g
    cases h
    cases g
    unfold PyData.eqvAll deqvL
    rfl
  | [], b :: bs, xs, ys, h, g => by
    unfold datL at h g
    cases h
    split at g
    · cases g
      unfold PyData.eqvAll deqvL
      rfl
    · cases g
  | a :: as, [], xs, ys, h, g => by
    unfold datL at h g
    cases g
    split at h
    · cases h
      unfold PyData.eqvAll deqvL
      rfl
    · cases h
  | a :: as, b :: bs, xs, ys, h, g => by
    unfold datL at h g
    split at h
    · rename_i x xs' e1 e2
      cases h
      split at g
      · rename_i y ys' e3 e4
        cases g
        unfold PyData.eqvAll deqvL
        rw [eqv_dat a b x y e1 e3, eqvAll_dat as bs xs' ys' e2 e4]
      · cases g
    · cases h
end
theorem eqD_plain {a b : D} (ha : plain 64 a = true) (hb : plain 64 b = true) : eqD a b = some (deqv a b) := by
  obtain ⟨x, h1, h2, h3⟩ := dat_plain a 64 ha
  obtain ⟨y, g1, g2, g3⟩ := dat_plain b 64 hb
  unfold eqD
  rw [h1, g1]
  have e1 : SeqAt.shaped x = true := by unfold SeqAt.shaped; rw [h2, decide_eq_true h3]; rfl
  have e2 : SeqAt.shaped y = true := by unfold SeqAt.shaped; rw [g2, decide_eq_true g3]; rfl
  simp only [e1, e2, Bool.and_self, if_true]
  rw [eqv_dat a b x y h1 g1]
mutual
theorem deqv_refl : ∀ (a : D) (k : Nat), plain k a = true → deqv a a = true
  | .ty s, k, h => by cases k <;> (unfold plain at h; cases h)
  | .cell s, k, h => by cases k <;> (unfold plain at h; cases h)
  | .non, k, h => by unfold deqv; rfl
  | .bl b, k, h => by unfold deqv; simp
  | .int b, k, h => by unfold deqv; simp
  | .str b, k, h => by unfold deqv; simp
  | .tup ts, 0, h => by unfold plain at h; cases h
  | .lst ts, 0, h => by unfold plain at h; cases h
  | .own ts, 0, h => by unfold plain at h; cases h
  | .frz ts, 0, h => by unfold plain at h; cases h
  | .tup ts, k + 1, h => by unfold plain at h; unfold deqv; exact deqvL_refl ts k h
  | .lst ts, k + 1, h => by unfold plain at h; unfold deqv; exact deqvL_refl ts k h
  | .own ts, k + 1, h => by unfold plain at h; unfold deqv; exact deqvL_refl ts k h
  | .frz ts, k + 1, h => by unfold plain at h; unfold deqv; exact deqvL_refl ts k h
theorem deqvL_refl : ∀ (a : List D) (k : Nat), plainL k a = true → deqvL a a = true
  | [], k, h => by unfold deqvL; rfl
  | a :: as, k, h => by
    unfold plainL at h
    rw [Bool.and_eq_true] at h
    unfold deqvL
    show (deqv a a && deqvL as as) = true
    rw [deqv_refl a k h.1, deqvL_refl as k h.2]; rfl
end
theorem eqD_self {a : D} (h : plain 64 a = true) : eqD a a = some true := by rw [eqD_plain h h, deqv_refl a 64 h]
@[simp] theorem plain_int (k : Nat) (i : Int) : plain k (.int i) = true := by cases k <;> (unfold plain; rfl)
@[simp] theorem plain_bl (k : Nat) (i : Bool) : plain k (.bl i) = true := by cases k <;> (unfold plain; rfl)
@[simp] theorem plain_non (k : Nat) : plain k .non = true := by cases k <;> (unfold plain; rfl)
theorem plain_str (k : Nat) (s : Str) : plain k (.str s) = PyData.strOk s := by cases k <;> (unfold plain; rfl)
@[simp] theorem plain_tup (k : Nat) (ts : List D) : plain (k + 1) (.tup ts) = plainL k ts := by unfold plain; rfl
@[simp] theorem plain_lst (k : Nat) (ts : List D) : plain (k + 1) (.lst ts) = plainL k ts := by unfold plain; rfl
@[simp] theorem plain_own (k : Nat) (ts : List D) : plain (k + 1) (.own ts) = plainL k ts := by unfold plain; rfl
@[simp] theorem plainL_nil (k : Nat) : plainL k [] = true := by unfold plainL; rfl
@[simp] theorem plainL_cons (k : Nat) (t : D) (ts : List D) : plainL k (t :: ts) = (plain k t && plainL k ts) := by rw [plainL]
theorem plainL_all {k : Nat} : ∀ {ts : List D}, (∀ t, t ∈ ts → plain k t = true) → plainL k ts = true
  | [], _ => plainL_nil k
  | t :: ts, h => by rw [plainL_cons, h t List.mem_cons_self, plainL_all fun u hu => h u (List.mem_cons_of_mem _ hu)]; rfl
@[simp] theorem eqD_int (i j : Int) : eqD (.int i) (.int j) = some (decide (i = j)) := by
  rw [eqD_plain (plain_int _ _) (plain_int _ _)]
  unfold deqv
  congr 1
@[simp] theorem eqD_bl (i j : Bool) : eqD (.bl i) (.bl j) = some (i == j) := by
  rw [eqD_plain (plain_bl _ _) (plain_bl _ _)]
  unfold deqv
  rfl
@[simp] theorem eqD_non : eqD .non .non = some true := eqD_self (plain_non _)
end Mini

namespace Mini
open PySem L2
def ans : O → R D
  | .nx _ δ => .ok .non δ
  | .rt d δ => if isOwn d then .bad else .ok d δ
  | .ex c p _ δ => .ex c p δ
  | _ => .bad
@[simp] theorem ans_nx (σ : Sig) (δ : Dl) : ans (.nx σ δ) = .ok .non δ := (rfl)
@[simp] theorem ans_rt (d : D) (δ : Dl) : ans (.rt d δ) = if isOwn d then .bad else .ok d δ := (rfl)
@[simp] theorem ans_ex (c : Str) (p : List D) (σ : Sig) (δ : Dl) : ans (.ex c p σ δ) = .ex c p δ := (rfl)
theorem runF_at {P : Par} {n k w : Nat} {s : S} {ds : List D} {δ : Dl} (σ : Sig) (hk : ds.length = k) (h : ds.map some ++ List.replicate (w - ds.length) none = σ) : runF P n k w s ds δ = ans (evS P n s σ δ) := by
  unfold runF
  rw [if_pos hk, h]
  cases evS P n s σ δ <;> rfl
theorem F_at {X : List Str} {G : Nat → D} {n k f : Nat} {ds : List Df} {d : Df} {as : List D} {δ : Dl} (σ : Sig) (hd : ds[f]? = some d) (hk : as.length = d.ps.length) (h : as.map some ++ List.replicate (d.N.length - as.length) none = σ) :
    (progF X G n ds (k + 1)).F f as δ = ans (evS (progF X G n ds k) n d.m σ δ) := by
  show (match ds[f]? with | some d => runF { F := progG X G n ds k, G := G, X := X } n d.ps.length d.N.length d.m as δ | none => .bad) = _
  rw [hd]
  exact runF_at σ hk h
theorem call_ok {P : Par} {f : Nat} {ds : List D} {d : D} {δ δ' : Dl} (h : P.F f ds δ = .ok d δ') (hn : ds.any isOwn = false) (hd : isOwn d = false) : callE P f ds δ = .ok d δ' := by
  unfold callE
  rw [demote_all hn, h]
  simp [hn, hd]
theorem call_ex {P : Par} {f : Nat} {ds : List D} {c : Str} {p : List D} {δ δ' : Dl} (h : P.F f ds δ = .ex c p δ') (hn : ds.any isOwn = false) : callE P f ds δ = .ex c p δ' := by
  unfold callE
  rw [demote_all hn, h]
  simp [hn]
@[simp] theorem forGo_nil (g : G) (b : Sig → Dl → O) (σ : Sig) (δ : Dl) : forGo g b [] σ δ = .nx σ δ := (rfl)
theorem forGo_cons {g : G} {b : Sig → Dl → O} {x : D} {xs : List D} {σ σ1 : Sig} {δ : Dl} (h : setG g x σ = some σ1) : forGo g b (x :: xs) σ δ = (match b σ1 δ with
      | .nx σ δ => forGo g b xs σ δ
      | .ct σ δ => forGo g b xs σ δ
      | .bk σ δ => .nx σ δ
      | o => o) := by
  show (match setG g x σ with | none => O.bad | some σ => _) = _
  rw [h]
  first
    | done
    | (dsimp only; done)
    | (dsimp only; generalize b σ1 δ = o; cases o <;> rfl)
theorem forGo_nx {g : G} {b : Sig → Dl → O} {x : D} {xs : List D} {σ σ1 σ2 : Sig} {δ δ2 : Dl} (h : setG g x σ = some σ1) (h2 : b σ1 δ = .nx σ2 δ2) : forGo g b (x :: xs) σ δ = forGo g b xs σ2 δ2 := by
  rw [forGo_cons h, h2]
@[simp] theorem gxGo_nil (b : Bool) (g : G) (c : Sig → Dl → R Bool) (e : Sig → Dl → R D) (σ : Sig) (δ : Dl) : gxGo b g c e σ [] δ = .ok (!b) δ := (rfl)
@[simp] theorem lcGo_nil (g : G) (c : Sig → Dl → R Bool) (e : Sig → Dl → R D) (σ : Sig) (δ : Dl) : lcGo g c e σ [] δ = .ok [] δ := (rfl)
theorem lcGo_yes {g : G} {c : Sig → Dl → R Bool} {e : Sig → Dl → R D} {x y : D} {xs : List D} {σ σ1 : Sig} {δ δ1 δ2 : Dl} (h : setG g x σ = some σ1) (hc : c σ1 δ = .ok true δ1) (he : e σ1 δ1 = .ok y δ2) (ho : isOwn y = false) :
    lcGo g c e σ (x :: xs) δ = (lcGo g c e σ xs δ2).bind fun ys δ => .ok (y :: ys) δ := by
  show (match setG g x σ with | none => R.bad | some σ2 => _) = _
  rw [h]
  simp only [hc, he, noex_ok, bind_ok, if_true, ho]
  rfl
theorem lcGo_no {g : G} {c : Sig → Dl → R Bool} {e : Sig → Dl → R D} {x : D} {xs : List D} {σ σ1 : Sig} {δ δ1 : Dl} (h : setG g x σ = some σ1) (hc : c σ1 δ = .ok false δ1) :
    lcGo g c e σ (x :: xs) δ = lcGo g c e σ xs δ1 := by
  show (match setG g x σ with | none => R.bad | some σ2 => _) = _
  rw [h]
  simp only [hc, noex_ok, bind_ok]
  rfl
theorem lcGo_map {α : Type} {g : G} {c : Sig → Dl → R Bool} {e : Sig → Dl → R D} {σ : Sig} {δ : Dl} (tx ty : α → D) (p : α → Bool) : ∀ (l : List α), (∀ a, a ∈ l → ∃ σ1, setG g (tx a) σ = some σ1 ∧ c σ1 δ = .ok (p a) δ ∧ (p a = true → e σ1 δ = .ok (ty a) δ ∧ isOwn (ty a) = false)) →
    lcGo g c e σ (l.map tx) δ = .ok ((l.filter p).map ty) δ
  | [], _ => rfl
  | a :: l, h => by
    obtain ⟨σ1, h1, h2, h3⟩ := h a List.mem_cons_self
    have ih := lcGo_map tx ty p l fun b hb => h b (List.mem_cons_of_mem _ hb)
    cases hp : p a with
    | true =>
      rw [hp] at h2
      rw [List.map_cons, lcGo_yes h1 h2 (h3 hp).1 (h3 hp).2, ih, List.filter_cons, if_pos hp]
      rfl
    | false =>
      rw [hp] at h2
      rw [List.map_cons, lcGo_no h1 h2, ih, List.filter_cons, if_neg (by simp [hp])]
theorem whl_stop {c : Sig → Dl → R Bool} {b : Sig → Dl → O} {n : Nat} {σ : Sig} {δ δ1 : Dl} (h : c σ δ = .ok false δ1) : whlGo c b (n + 1) σ δ = .nx σ δ1 := by
  show (match c σ δ with | .ok k δ => _ | .ex c p δ => _ | .bad => _) = _
  rw [h]
  rfl
theorem whl_go {c : Sig → Dl → R Bool} {b : Sig → Dl → O} {n : Nat} {σ σ2 : Sig} {δ δ1 δ2 : Dl} (h : c σ δ = .ok true δ1) (h2 : b σ δ1 = .nx σ2 δ2) : whlGo c b (n + 1) σ δ = whlGo c b n σ2 δ2 := by
  show (match c σ δ with | .ok k δ => _ | .ex c p δ => _ | .bad => _) = _
  rw [h]
  show (match b σ δ1 with | .nx σ δ => whlGo c b n σ δ | .ct σ δ => _ | .bk σ δ => _ | o => o) = _
  rw [h2]
theorem rng_map (lo : Int) : ∀ n : Nat, rngFrom lo 1 n = (List.range n).map fun i => .int (lo + (i : Nat))
  | 0 => rfl
  | n + 1 => by
    show .int lo :: rngFrom (lo + 1) 1 n = _
    rw [rng_map (lo + 1) n, List.range_succ_eq_map, List.map_cons, List.map_map]
    congr 1
    · show D.int lo = D.int (lo + (0 : Nat))
      congr 1
      omega
    · apply List.map_congr_left
      intro a _
      show D.int _ = D.int _
      congr 1
      show lo + 1 + (a : Nat) = lo + ((a + 1 : Nat) : Int)
      omega
@[simp] theorem len_map_int (ns : List Int) : (ns.map D.int).length = ns.length := List.length_map ..
@[simp] theorem any_own_int (ns : List Int) : (ns.map D.int).any isOwn = false := by
  rw [List.any_map]
  induction ns with
  | nil => rfl
  | cons n ns ih => rw [List.any_cons, ih]; rfl
theorem atI_nat {α : Type} {xs : List α} {i : Nat} {x : α} (h : xs[i]? = some x) : atI xs (i : Int) = some x := by
  have hi := (List.getElem?_eq_some_iff.mp h).1
  unfold atI ixN
  rw [if_pos (by omega), if_pos (by omega)]
  exact h
@[simp] theorem atI_0 {α : Type} (x : α) (xs : List α) : atI (x :: xs) 0 = some x := atI_nat (i := 0) rfl
@[simp] theorem atI_1 {α : Type} (x y : α) (xs : List α) : atI (x :: y :: xs) 1 = some y := atI_nat (i := 1) rfl
@[simp] theorem atI_2 {α : Type} (x y z : α) (xs : List α) : atI (x :: y :: z :: xs) 2 = some z := atI_nat (i := 2) rfl
@[simp] theorem idx_tup (δ : Dl) (ts : List D) (i : Int) : idxD δ (.tup ts) (.int i) = atI ts i := (rfl)
@[simp] theorem idx_lst (δ : Dl) (ts : List D) (i : Int) : idxD δ (.lst ts) (.int i) = atI ts i := (rfl)
@[simp] theorem idx_own (δ : Dl) (ts : List D) (i : Int) : idxD δ (.own ts) (.int i) = atI ts i := (rfl)
@[simp] theorem idx_frz (δ : Dl) (ts : List D) (i : Int) : idxD δ (.frz ts) (.int i) = atI ts i := (rfl)
@[simp] theorem idx_cell (δ : Dl) (k : Nat) (i : Int) : idxD δ (.cell k) (.int i) = (δ[k]?).bind fun ts => atI ts i := (rfl)
@[simp] theorem blt_int (δ : Dl) (i : Int) : bltD δ .int [.int i] = some (.int i) := (rfl)
@[simp] theorem blt_intb (δ : Dl) (i : Bool) : bltD δ .int [.bl i] = some (.int (if i then 1 else 0)) := (rfl)
@[simp] theorem blt_abs (δ : Dl) (i : Int) : bltD δ .abs [.int i] = some (.int i.natAbs) := by
  show some (D.int (if i < 0 then -i else i)) = _
  congr 2
  split <;> omega
@[simp] theorem blt_tup_lst (δ : Dl) (ts : List D) : bltD δ .tuple [.lst ts] = some (.tup ts) := (rfl)
@[simp] theorem blt_tup_tup (δ : Dl) (ts : List D) : bltD δ .tuple [.tup ts] = some (.tup ts) := (rfl)
@[simp] theorem blt_tup_own (δ : Dl) (ts : List D) : bltD δ .tuple [.own ts] = some (.tup ts) := (rfl)
@[simp] theorem blt_list_tup (δ : Dl) (ts : List D) : bltD δ .list [.tup ts] = some (.lst ts) := (rfl)
@[simp] theorem blt_list_lst (δ : Dl) (ts : List D) : bltD δ .list [.lst ts] = some (.lst ts) := (rfl)
@[simp] theorem blt_len_tup (δ : Dl) (ts : List D) : bltD δ .len [.tup ts] = some (.int ts.length) := (rfl)
@[simp] theorem blt_len_lst (δ : Dl) (ts : List D) : bltD δ .len [.lst ts] = some (.int ts.length) := (rfl)
@[simp] theorem blt_len_own (δ : Dl) (ts : List D) : bltD δ .len [.own ts] = some (.int ts.length) := (rfl)
@[simp] theorem blt_isi_ii (δ : Dl) (i : Int) : bltD δ .isi [.int i, .ty "int"] = some (.bl true) := by
  show (some (D.bl true)) = _
  rfl
@[simp] theorem blt_isi_ib (δ : Dl) (i : Int) : bltD δ .isi [.int i, .ty "bool"] = some (.bl false) := by
  show (some (D.bl false)) = _
  rfl
@[simp] theorem items_tup (δ : Dl) (ts : List D) : itemsD δ .seq [.tup ts] = some ts := (rfl)
@[simp] theorem items_lst (δ : Dl) (ts : List D) : itemsD δ .seq [.lst ts] = some ts := (rfl)
@[simp] theorem items_frz (δ : Dl) (ts : List D) : itemsD δ .seq [.frz ts] = some ts := (rfl)
@[simp] theorem items_zipT (δ : Dl) (a b : List D) : itemsD δ .zip [.tup a, .tup b] = some (zipD a b) := (rfl)
@[simp] theorem items_zipL (δ : Dl) (a b : List D) : itemsD δ .zip [.lst a, .lst b] = some (zipD a b) := (rfl)
theorem items_rng {δ : Dl} {n : Int} (h : rOk n = true) : itemsD δ .rng1 [.int n] = some ((List.range n.toNat).map fun i => .int (i : Nat)) := by
  show (if rOk n then some (rngFrom 0 1 n.toNat) else none) = _
  rw [h, rng_map]
  simp
theorem items_rng2 {δ : Dl} {a b : Int} (h : rOk a = true) (h2 : rOk b = true) : itemsD δ .rng2 [.int a, .int b] = some ((List.range (b - a).toNat).map fun i => .int (a + (i : Nat))) := by
  show (if rOk a && rOk b then some (rngFrom a 1 (b - a).toNat) else none) = _
  rw [h, h2, rng_map]
  rfl
theorem rOk_le {n : Int} (h1 : -(2 ^ 62) ≤ n) (h2 : n < 2 ^ 62) : rOk n = true := by
  unfold rOk
  rw [decide_eq_true h1, decide_eq_true h2]; rfl
end Mini

namespace Mini
open PySem PySem.Spec PyProof.Rows L2
def fuel : Nat := 1000000000000
def depth : Nat := 20
def steps : Nat := 20000
def toldHs : List (Str × Str) := [("BadNumber", "number"), ("BadForm", "form"), ("NoWay", "no way"), ("TooLarge", "large")]
abbrev g_ONE : Nat := 0
abbrev f_law_rounds : Nat := 0
abbrev f_law_made : Nat := 1
abbrev f_law_roll : Nat := 2
abbrev f_law_frac : Nat := 3
abbrev f_law_of_roots : Nat := 4
abbrev f_law_mul : Nat := 5
abbrev f_law_raise : Nat := 6
abbrev f_law_add : Nat := 7
abbrev f_resultant : Nat := 8
abbrev f_degree : Nat := 9
abbrev f_divisor : Nat := 10
abbrev f_apart : Nat := 11
abbrev f_product : Nat := 12
abbrev f_raised : Nat := 13
abbrev f_slope : Nat := 14
abbrev f_law_sum : Nat := 15
abbrev f_law_plain : Nat := 16
abbrev f_law_dice : Nat := 17
abbrev f_of : Nat := 18
abbrev f_times : Nat := 19
abbrev f_minus : Nat := 20
abbrev f_parted : Nat := 21
abbrev f_lead : Nat := 22
abbrev f_monic : Nat := 23
abbrev f_plus : Nat := 24
abbrev f_cut : Nat := 25
abbrev f_plain : Nat := 26
abbrev f_content : Nat := 27
abbrev f_scaled : Nat := 28
abbrev f_of_wholes : Nat := 29
abbrev f_law_gcd : Nat := 30
abbrev f_made : Nat := 31
abbrev f_over : Nat := 32
abbrev f_shared : Nat := 33
abbrev f_sign : Nat := 34
def e1_law_rounds : E :=
  (.call f_law_dice (.cons (.var 3) .nil))
def m_law_rounds : S :=
  (.seq (.asg (.name 2) (.slc (.var 0) .np (.var 1)))
    (.seq (.ite (.cmp .Eq (.var 2) (.lst .nil))
    (.seq (.asg (.name 2) (.lst (.cons (.int 0) .nil)))
    .skip)
    .skip)
    (.seq (.ret (.lc [3] (.name 3) .seq (.cons (.var 2) .nil) .np e1_law_rounds))
    .skip)))
def d_law_rounds : Df := ⟨"_law_rounds", ["script", "most"], ["script", "most", "cells", "cell"], m_law_rounds⟩
def c1_law_made : E :=
  (.cmp .NotEq (.var 3) (.int 0))
def b1_law_made : S :=
  (.seq (.par [(2, false), (3, false)] (.cons (.var 3) (.cons (.bin .Mod (.var 2) (.var 3)) .nil)))
    .skip)
def m_law_made : S :=
  (.seq (.par [(2, false), (3, false)] (.cons (.blt .abs (.cons (.var 0) .nil)) (.cons (.blt .abs (.cons (.var 1) .nil)) .nil)))
    (.seq (.whl c1_law_made b1_law_made)
    (.seq (.asg (.name 2) (.ite (.cmp .Gt (.var 1) (.int 0)) (.var 2) (.bin .Sub (.int 0) (.var 2))))
    (.seq (.ret (.tup (.cons (.bin .FloorDiv (.var 0) (.var 2)) (.cons (.bin .FloorDiv (.var 1) (.var 2)) .nil))))
    .skip))))
def d_law_made : Df := ⟨"_law_made", ["top", "bottom"], ["top", "bottom", "a", "b"], m_law_made⟩
def m_law_roll : S :=
  (.seq (.ite (.or (.cmp .Eq (.idx (.var 0) (.int 2)) (.int 2)) (.and (.cmp .Eq (.idx (.var 0) (.int 2)) (.int 1)) (.cmp .Gt (.idx (.var 0) (.int 0)) (.int 0))))
    (.seq (.asg (.name 2) (.bin .Mod (.blt .int (.cons (.idx (.var 0) (.int 0)) .nil)) (.var 1)))
    (.seq (.setx (.var 0) (.int 0) (.bin .FloorDiv (.idx (.var 0) (.int 0)) (.var 1)))
    (.seq (.ret (.var 2))
    .skip)))
    .skip)
    (.seq (.setx (.var 0) (.int 2) (.int 0))
    (.seq (.setx (.var 0) (.int 0) (.bin .Mod (.blt .int (.cons (.bin .Add (.bin .Add (.bin .Mult (.idx (.var 0) (.int 0)) (.int 48271)) (.bin .Mult (.idx (.var 0) (.int 1)) (.int 69621))) (.int 11)) .nil)) (.int 2147483647)))
    (.seq (.setx (.var 0) (.int 1) (.bin .Add (.idx (.var 0) (.int 1)) (.int 1)))
    (.seq (.ret (.bin .Mod (.blt .int (.cons (.bin .Add (.bin .FloorDiv (.idx (.var 0) (.int 0)) (.int 7)) (.idx (.var 0) (.int 0))) .nil)) (.var 1)))
    .skip)))))
def d_law_roll : Df := ⟨"_law_roll", ["dice", "many"], ["dice", "many", "found"], m_law_roll⟩
def m_law_frac : S :=
  (.seq (.ret (.call f_law_made (.cons (.bin .Sub (.call f_law_roll (.cons (.var 0) (.cons (.int 11) .nil))) (.int 5)) (.cons (.bin .Add (.int 1) (.call f_law_roll (.cons (.var 0) (.cons (.int 3) .nil)))) .nil))))
    .skip)
def d_law_frac : Df := ⟨"_law_frac", ["dice"], ["dice"], m_law_frac⟩
def b1_law_of_roots : S :=
  (.seq (.asg (.name 2) (.call f_product (.cons (.var 2) (.cons (.tup (.cons (.call f_law_mul (.cons (.tup (.cons (.bin .Sub (.int 0) (.int 1)) (.cons (.int 1) .nil))) (.cons (.var 3) .nil))) (.cons (.tup (.cons (.int 1) (.cons (.int 1) .nil))) .nil))) .nil))))
    .skip)
def m_law_of_roots : S :=
  (.seq (.asg (.name 2) (.tup (.cons (.var 0) .nil)))
    (.seq (.for (.name 3) .seq (.cons (.var 1) .nil) b1_law_of_roots)
    (.seq (.ret (.var 2))
    .skip)))
def d_law_of_roots : Df := ⟨"_law_of_roots", ["number", "row"], ["number", "row", "found", "root"], m_law_of_roots⟩
def m_law_mul : S :=
  (.seq (.ret (.call f_law_made (.cons (.bin .Mult (.idx (.var 0) (.int 0)) (.idx (.var 1) (.int 0))) (.cons (.bin .Mult (.idx (.var 0) (.int 1)) (.idx (.var 1) (.int 1))) .nil))))
    .skip)
def d_law_mul : Df := ⟨"_law_mul", ["one", "two"], ["one", "two"], m_law_mul⟩
def b1_law_raise : S :=
  (.seq (.asg (.name 2) (.call f_law_mul (.cons (.var 2) (.cons (.var 0) .nil))))
    .skip)
def m_law_raise : S :=
  (.seq (.asg (.name 2) (.tup (.cons (.int 1) (.cons (.int 1) .nil))))
    (.seq (.for (.name 3) .rng1 (.cons (.var 1) .nil) b1_law_raise)
    (.seq (.ret (.var 2))
    .skip)))
def d_law_raise : Df := ⟨"_law_raise", ["one", "many"], ["one", "many", "found", "k"], m_law_raise⟩
def m_law_add : S :=
  (.seq (.ret (.call f_law_made (.cons (.bin .Add (.bin .Mult (.idx (.var 0) (.int 0)) (.idx (.var 1) (.int 1))) (.bin .Mult (.idx (.var 1) (.int 0)) (.idx (.var 0) (.int 1)))) (.cons (.bin .Mult (.idx (.var 0) (.int 1)) (.idx (.var 1) (.int 1))) .nil))))
    .skip)
def d_law_add : Df := ⟨"_law_add", ["one", "two"], ["one", "two"], m_law_add⟩
def b1_resultant : S :=
  (.seq (.asg (.name 3) (.call f_times (.cons (.var 3) (.cons (.idx (.var 1) (.int 0)) .nil))))
    .skip)
def b2_resultant : S :=
  (.seq (.asg (.name 3) (.call f_times (.cons (.var 3) (.cons (.call f_lead (.cons (.var 1) .nil)) .nil))))
    .skip)
def t1_resultant : S :=
  (.seq (.ite (.cmp .Eq (.bin .Mod (.bin .Mult (.call f_degree (.cons (.var 0) .nil)) (.call f_degree (.cons (.var 1) .nil))) (.int 2)) (.int 1))
    (.seq (.asg (.name 3) (.call f_minus (.cons (.call f_of (.cons (.int 0) .nil)) (.cons (.var 3) .nil))))
    .skip)
    .skip)
    (.seq (.for (.name 4) .rng1 (.cons (.ite (.cmp .NotEq (.var 2) (.tup .nil)) (.bin .Sub (.call f_degree (.cons (.var 0) .nil)) (.call f_degree (.cons (.var 2) .nil))) (.int 0)) .nil) b2_resultant)
    (.seq (.ret (.var 3))
    .skip)))
def m_resultant : S :=
  (.seq (.ite (.or (.cmp .Eq (.var 0) (.tup .nil)) (.cmp .Eq (.var 1) (.tup .nil)))
    (.seq (.ret (.tup (.cons (.int 0) (.cons (.int 1) .nil))))
    .skip)
    .skip)
    (.seq (.ite (.cmp .Eq (.call f_degree (.cons (.var 1) .nil)) (.int 0))
    (.seq (.asg (.name 3) (.call f_of (.cons (.int 1) .nil)))
    (.seq (.for (.name 4) .rng1 (.cons (.call f_degree (.cons (.var 0) .nil)) .nil) b1_resultant)
    (.seq (.ret (.var 3))
    .skip)))
    .skip)
    (.seq (.ite (.cmp .Lt (.call f_degree (.cons (.var 0) .nil)) (.call f_degree (.cons (.var 1) .nil)))
    (.seq (.asg (.name 3) (.call f_resultant (.cons (.var 1) (.cons (.var 0) .nil))))
    (.seq (.ret (.ite (.cmp .Eq (.bin .Mod (.bin .Mult (.call f_degree (.cons (.var 0) .nil)) (.call f_degree (.cons (.var 1) .nil))) (.int 2)) (.int 1)) (.call f_minus (.cons (.call f_of (.cons (.int 0) .nil)) (.cons (.var 3) .nil))) (.var 3)))
    .skip))
    .skip)
    (.seq (.asg (.name 2) (.idx (.call f_parted (.cons (.var 0) (.cons (.var 1) .nil))) (.int 1)))
    (.seq (.asg (.name 3) (.call f_resultant (.cons (.var 1) (.cons (.var 2) .nil))))
    t1_resultant)))))
def d_resultant : Df := ⟨"resultant", ["one", "other"], ["one", "other", "rest", "found", "k"], m_resultant⟩
def m_degree : S :=
  (.seq (.ret (.bin .Sub (.blt .len (.cons (.var 0) .nil)) (.int 1)))
    .skip)
def d_degree : Df := ⟨"degree", ["one"], ["one"], m_degree⟩
def c1_divisor : E :=
  (.cmp .NotEq (.var 1) (.tup .nil))
def b1_divisor : S :=
  (.seq (.par [(0, false), (1, false)] (.cons (.var 1) (.cons (.idx (.call f_parted (.cons (.var 0) (.cons (.var 1) .nil))) (.int 1)) .nil)))
    .skip)
def m_divisor : S :=
  (.seq (.whl c1_divisor b1_divisor)
    (.seq (.ret (.call f_monic (.cons (.var 0) .nil)))
    .skip))
def d_divisor : Df := ⟨"divisor", ["one", "other"], ["one", "other"], m_divisor⟩
def c1_apart : E :=
  (.cmp .Gt (.call f_degree (.cons (.var 3) .nil)) (.int 0))
def b1_apart : S :=
  (.seq (.asg (.name 5) (.call f_divisor (.cons (.var 3) (.cons (.var 2) .nil))))
    (.seq (.asg (.name 6) (.idx (.call f_parted (.cons (.var 3) (.cons (.var 5) .nil))) (.int 0)))
    (.seq (.ite (.cmp .Gt (.call f_degree (.cons (.var 6) .nil)) (.int 0))
    (.seq (.app 1 (.tup (.cons (.var 6) (.cons (.var 4) .nil))))
    .skip)
    .skip)
    (.seq (.par [(3, false), (2, false), (4, false)] (.cons (.var 5) (.cons (.idx (.call f_parted (.cons (.var 2) (.cons (.var 5) .nil))) (.int 0)) (.cons (.bin .Add (.var 4) (.int 1)) .nil))))
    .skip))))
def m_apart : S :=
  (.seq (.ite (.cmp .Eq (.var 0) (.tup .nil))
    (.seq (.rais "NoWay")
    .skip)
    .skip)
    (.seq (.par [(1, true), (2, false)] (.cons (.lst .nil) (.cons (.call f_divisor (.cons (.var 0) (.cons (.call f_slope (.cons (.var 0) .nil)) .nil))) .nil)))
    (.seq (.par [(3, false), (4, false)] (.cons (.ite (.cmp .NotEq (.var 2) (.tup .nil)) (.idx (.call f_parted (.cons (.call f_monic (.cons (.var 0) .nil)) (.cons (.var 2) .nil))) (.int 0)) (.call f_monic (.cons (.var 0) .nil))) (.cons (.int 1) .nil)))
    (.seq (.whl c1_apart b1_apart)
    (.frz 1
    (.seq (.ret (.tup (.cons (.call f_lead (.cons (.var 0) .nil)) (.cons (.blt .tuple (.cons (.var 1) .nil)) .nil))))
    .skip))))))
def d_apart : Df := ⟨"apart", ["one"], ["one", "found", "shared_part", "rest", "k", "both", "part"], m_apart⟩
def b1_product : S :=
  (.seq (.setx (.var 2) (.bin .Add (.var 3) (.var 5)) (.call f_plus (.cons (.idx (.var 2) (.bin .Add (.var 3) (.var 5))) (.cons (.call f_times (.cons (.var 4) (.cons (.var 6) .nil))) .nil))))
    .skip)
def b2_product : S :=
  (.seq (.for (.tup [5, 6]) .enum (.cons (.var 1) .nil) b1_product)
    .skip)
def m_product : S :=
  (.seq (.asgO 2 (.bin .Mult (.lst (.cons (.tup (.cons (.int 0) (.cons (.int 1) .nil))) .nil)) (.bin .Add (.blt .len (.cons (.var 0) .nil)) (.blt .len (.cons (.var 1) .nil)))))
    (.seq (.for (.tup [3, 4]) .enum (.cons (.var 0) .nil) b2_product)
    (.frz 2
    (.seq (.ret (.call f_cut (.cons (.var 2) .nil)))
    .skip))))
def d_product : Df := ⟨"product", ["one", "other"], ["one", "other", "found", "k", "a", "j", "b"], m_product⟩
def b1_raised : S :=
  (.seq (.asg (.name 2) (.call f_product (.cons (.var 2) (.cons (.var 0) .nil))))
    .skip)
def m_raised : S :=
  (.seq (.asg (.name 2) (.glob g_ONE))
    (.seq (.for (.name 3) .rng1 (.cons (.var 1) .nil) b1_raised)
    (.seq (.ret (.var 2))
    .skip)))
def d_raised : Df := ⟨"raised", ["one", "many"], ["one", "many", "found", "k"], m_raised⟩
def e1_slope : E :=
  (.call f_times (.cons (.call f_of (.cons (.var 1) .nil)) (.cons (.idx (.var 0) (.var 1)) .nil)))
def m_slope : S :=
  (.seq (.ret (.call f_cut (.cons (.lc [1] (.name 1) .rng2 (.cons (.int 1) (.cons (.blt .len (.cons (.var 0) .nil)) .nil)) .np e1_slope) .nil)))
    .skip)
def d_slope : Df := ⟨"slope", ["one"], ["one", "k"], m_slope⟩
def b1_law_sum : S :=
  (.seq (.asg (.name 1) (.call f_law_add (.cons (.var 1) (.cons (.var 2) .nil))))
    .skip)
def m_law_sum : S :=
  (.seq (.asg (.name 1) (.tup (.cons (.int 0) (.cons (.int 1) .nil))))
    (.seq (.for (.name 2) .seq (.cons (.var 0) .nil) b1_law_sum)
    (.seq (.ret (.var 1))
    .skip)))
def d_law_sum : Df := ⟨"_law_sum", ["row"], ["row", "found", "one"], m_law_sum⟩
def c1_law_plain : E :=
  (.not (.blt .isi (.cons (.var 2) (.cons (.ty "int") .nil))))
def e1_law_plain : E :=
  (.var 2)
def b1_law_plain : S :=
  (.seq (.asg (.name 1) (.call f_law_gcd (.cons (.var 1) (.cons (.var 2) .nil))))
    .skip)
def t1_law_plain : S :=
  (.seq (.ite (.or (.cmp .NotEq (.var 1) (.int 1)) (.or (.cmp .NotEq (.call f_plain (.cons (.tup .nil) .nil)) (.tup .nil)) (.cmp .NotEq (.call f_cut (.cons (.lst (.cons (.tup (.cons (.int 0) (.cons (.int 1) .nil))) (.cons (.tup (.cons (.int 0) (.cons (.int 1) .nil))) .nil))) .nil)) (.tup .nil))))
    (.seq (.ret (.bl false))
    .skip)
    .skip)
    (.seq (.ret (.bl true))
    .skip))
def m_law_plain : S :=
  (.seq (.par [(3, false), (4, false)] (.cons (.call f_plain (.cons (.var 0) .nil)) (.cons (.call f_content (.cons (.var 0) .nil)) .nil)))
    (.seq (.ite (.or (.cmp .NotEq (.call f_scaled (.cons (.call f_of_wholes (.cons (.var 3) .nil)) (.cons (.var 4) .nil))) (.var 0)) (.cmp .NotEq (.lc [2] (.name 2) .seq (.cons (.var 3) .nil) c1_law_plain e1_law_plain) (.lst .nil)))
    (.seq (.ret (.bl false))
    .skip)
    .skip)
    (.seq (.ite (.cmp .Lt (.idx (.var 3) (.bin .Sub (.blt .len (.cons (.var 3) .nil)) (.int 1))) (.int 1))
    (.seq (.ret (.bl false))
    .skip)
    .skip)
    (.seq (.asg (.name 1) (.int 0))
    (.seq (.for (.name 2) .seq (.cons (.var 3) .nil) b1_law_plain)
    t1_law_plain)))))
def d_law_plain : Df := ⟨"_law_plain", ["f"], ["f", "all_shared", "one", "row", "much"], m_law_plain⟩
def m_law_dice : S :=
  (.seq (.ite (.chain .Lt .Lt (.bin .Sub (.int 0) (.int 10)) (.var 0) (.int 10))
    (.seq (.ret (.newc (.lst (.cons (.blt .abs (.cons (.var 0) .nil)) (.cons (.int 0) (.cons (.int 2) .nil))))))
    .skip)
    .skip)
    (.seq (.ret (.newc (.lst (.cons (.var 0) (.cons (.bin .Add (.int 1) (.bin .Mod (.blt .int (.cons (.var 0) .nil)) (.int 1009))) (.cons (.blt .int (.cons (.cmp .GtE (.var 0) (.bin .Pow (.int 10) (.int 18))) .nil)) .nil))))))
    .skip))
def d_law_dice : Df := ⟨"_law_dice", ["cell"], ["cell"], m_law_dice⟩
def m_of : S :=
  (.seq (.ret (.tup (.cons (.var 0) (.cons (.int 1) .nil))))
    .skip)
def d_of : Df := ⟨"of", ["number"], ["number"], m_of⟩
def m_times : S :=
  (.seq (.ret (.call f_made (.cons (.bin .Mult (.idx (.var 0) (.int 0)) (.idx (.var 1) (.int 0))) (.cons (.bin .Mult (.idx (.var 0) (.int 1)) (.idx (.var 1) (.int 1))) .nil))))
    .skip)
def d_times : Df := ⟨"times", ["one", "other"], ["one", "other"], m_times⟩
def m_minus : S :=
  (.seq (.ret (.call f_made (.cons (.bin .Sub (.bin .Mult (.idx (.var 0) (.int 0)) (.idx (.var 1) (.int 1))) (.bin .Mult (.idx (.var 1) (.int 0)) (.idx (.var 0) (.int 1)))) (.cons (.bin .Mult (.idx (.var 0) (.int 1)) (.idx (.var 1) (.int 1))) .nil))))
    .skip)
def d_minus : Df := ⟨"minus", ["one", "other"], ["one", "other"], m_minus⟩
def b1_parted : S :=
  (.seq (.setx (.var 3) (.bin .Add (.var 2) (.var 6)) (.call f_minus (.cons (.idx (.var 3) (.bin .Add (.var 2) (.var 6))) (.cons (.call f_times (.cons (.var 5) (.cons (.var 7) .nil))) .nil))))
    .skip)
def b2_parted : S :=
  (.seq (.asg (.name 5) (.call f_over (.cons (.idx (.var 3) (.bin .Sub (.bin .Add (.var 2) (.blt .len (.cons (.var 1) .nil))) (.int 1))) (.cons (.call f_lead (.cons (.var 1) .nil)) .nil))))
    (.seq (.setx (.var 4) (.var 2) (.var 5))
    (.seq (.for (.tup [6, 7]) .enum (.cons (.var 1) .nil) b1_parted)
    .skip)))
def m_parted : S :=
  (.seq (.ite (.cmp .Eq (.var 1) (.tup .nil))
    (.seq (.rais "NoWay")
    .skip)
    .skip)
    (.seq (.par [(3, true), (4, true)] (.cons (.blt .list (.cons (.var 0) .nil)) (.cons (.bin .Mult (.lst (.cons (.tup (.cons (.int 0) (.cons (.int 1) .nil))) .nil)) (.blt .max2 (.cons (.int 0) (.cons (.bin .Add (.bin .Sub (.blt .len (.cons (.var 0) .nil)) (.blt .len (.cons (.var 1) .nil))) (.int 1)) .nil)))) .nil)))
    (.seq (.for (.name 2) .rng3 (.cons (.bin .Sub (.blt .len (.cons (.var 0) .nil)) (.blt .len (.cons (.var 1) .nil))) (.cons (.neg (.int 1)) (.cons (.neg (.int 1)) .nil))) b2_parted)
    (.frz 4
    (.frz 3
    (.seq (.ret (.tup (.cons (.call f_cut (.cons (.var 4) .nil)) (.cons (.call f_cut (.cons (.var 3) .nil)) .nil))))
    .skip))))))
def d_parted : Df := ⟨"parted", ["one", "other"], ["one", "other", "k", "rest", "found", "much", "j", "part"], m_parted⟩
def m_lead : S :=
  (.seq (.ret (.ite (.cmp .NotEq (.var 0) (.tup .nil)) (.idx (.var 0) (.neg (.int 1))) (.tup (.cons (.int 0) (.cons (.int 1) .nil)))))
    .skip)
def d_lead : Df := ⟨"lead", ["one"], ["one"], m_lead⟩
def m_monic : S :=
  (.seq (.ret (.ite (.cmp .NotEq (.var 0) (.tup .nil)) (.call f_scaled (.cons (.var 0) (.cons (.call f_over (.cons (.call f_of (.cons (.int 1) .nil)) (.cons (.call f_lead (.cons (.var 0) .nil)) .nil))) .nil))) (.tup .nil)))
    .skip)
def d_monic : Df := ⟨"monic", ["one"], ["one"], m_monic⟩
def m_plus : S :=
  (.seq (.ret (.call f_made (.cons (.bin .Add (.bin .Mult (.idx (.var 0) (.int 0)) (.idx (.var 1) (.int 1))) (.bin .Mult (.idx (.var 1) (.int 0)) (.idx (.var 0) (.int 1)))) (.cons (.bin .Mult (.idx (.var 0) (.int 1)) (.idx (.var 1) (.int 1))) .nil))))
    .skip)
def d_plus : Df := ⟨"plus", ["one", "other"], ["one", "other"], m_plus⟩
def c1_cut : E :=
  (.and (.cmp .NotEq (.var 0) (.lst .nil)) (.cmp .Eq (.idx (.idx (.var 0) (.neg (.int 1))) (.int 0)) (.int 0)))
def b1_cut : S :=
  (.seq (.pop 0)
    .skip)
def m_cut : S :=
  (.seq (.asgO 0 (.blt .list (.cons (.var 0) .nil)))
    (.seq (.whl c1_cut b1_cut)
    (.seq (.ret (.blt .tuple (.cons (.var 0) .nil)))
    .skip)))
def d_cut : Df := ⟨"cut", ["row"], ["row"], m_cut⟩
def e1_plain : E :=
  (.idx (.call f_over (.cons (.var 2) (.cons (.var 1) .nil))) (.int 0))
def m_plain : S :=
  (.seq (.ite (.cmp .Eq (.var 0) (.tup .nil))
    (.seq (.ret (.tup .nil))
    .skip)
    .skip)
    (.seq (.asg (.name 1) (.call f_content (.cons (.var 0) .nil)))
    (.seq (.ret (.blt .tuple (.cons (.lc [2] (.name 2) .seq (.cons (.var 0) .nil) .np e1_plain) .nil)))
    .skip)))
def d_plain : Df := ⟨"plain", ["one"], ["one", "much", "part"], m_plain⟩
def b1_content : S :=
  (.seq (.asg (.name 2) (.bin .Mult (.bin .FloorDiv (.var 2) (.call f_shared (.cons (.var 2) (.cons (.idx (.var 1) (.int 1)) .nil)))) (.idx (.var 1) (.int 1))))
    .skip)
def b2_content : S :=
  (.seq (.asg (.name 3) (.call f_shared (.cons (.var 3) (.cons (.bin .Mult (.idx (.var 1) (.int 0)) (.bin .FloorDiv (.var 2) (.idx (.var 1) (.int 1)))) .nil))))
    .skip)
def m_content : S :=
  (.seq (.ite (.cmp .Eq (.var 0) (.tup .nil))
    (.seq (.ret (.tup (.cons (.int 0) (.cons (.int 1) .nil))))
    .skip)
    .skip)
    (.seq (.asg (.tup [2, 3]) (.tup (.cons (.int 1) (.cons (.int 0) .nil))))
    (.seq (.for (.name 1) .seq (.cons (.var 0) .nil) b1_content)
    (.seq (.for (.name 1) .seq (.cons (.var 0) .nil) b2_content)
    (.seq (.ret (.call f_made (.cons (.bin .Mult (.var 3) (.call f_sign (.cons (.call f_lead (.cons (.var 0) .nil)) .nil))) (.cons (.var 2) .nil))))
    .skip)))))
def d_content : Df := ⟨"content", ["one"], ["one", "part", "bottom", "top"], m_content⟩
def e1_scaled : E :=
  (.call f_times (.cons (.var 2) (.cons (.var 1) .nil)))
def m_scaled : S :=
  (.seq (.ret (.call f_cut (.cons (.lc [2] (.name 2) .seq (.cons (.var 0) .nil) .np e1_scaled) .nil)))
    .skip)
def d_scaled : Df := ⟨"scaled", ["one", "number"], ["one", "number", "part"], m_scaled⟩
def e1_of_wholes : E :=
  (.call f_of (.cons (.var 1) .nil))
def m_of_wholes : S :=
  (.seq (.ret (.call f_cut (.cons (.lc [1] (.name 1) .seq (.cons (.var 0) .nil) .np e1_of_wholes) .nil)))
    .skip)
def d_of_wholes : Df := ⟨"of_wholes", ["row"], ["row", "one"], m_of_wholes⟩
def c1_law_gcd : E :=
  (.cmp .NotEq (.var 1) (.int 0))
def b1_law_gcd : S :=
  (.seq (.par [(0, false), (1, false)] (.cons (.var 1) (.cons (.bin .Mod (.var 0) (.var 1)) .nil)))
    .skip)
def m_law_gcd : S :=
  (.seq (.par [(0, false), (1, false)] (.cons (.blt .abs (.cons (.var 0) .nil)) (.cons (.blt .abs (.cons (.var 1) .nil)) .nil)))
    (.seq (.whl c1_law_gcd b1_law_gcd)
    (.seq (.ret (.var 0))
    .skip)))
def d_law_gcd : Df := ⟨"_law_gcd", ["a", "b"], ["a", "b"], m_law_gcd⟩
def m_made : S :=
  (.seq (.ite (.cmp .Eq (.var 1) (.int 0))
    (.seq (.rais "NoWay")
    .skip)
    .skip)
    (.seq (.asg (.name 2) (.call f_shared (.cons (.var 0) (.cons (.var 1) .nil))))
    (.seq (.ite (.cmp .Lt (.var 1) (.int 0))
    (.seq (.asg (.name 2) (.neg (.var 2)))
    .skip)
    .skip)
    (.seq (.ret (.tup (.cons (.bin .FloorDiv (.var 0) (.var 2)) (.cons (.bin .FloorDiv (.var 1) (.var 2)) .nil))))
    .skip))))
def d_made : Df := ⟨"made", ["top", "bottom"], ["top", "bottom", "divisor"], m_made⟩
def m_over : S :=
  (.seq (.ret (.call f_made (.cons (.bin .Mult (.idx (.var 0) (.int 0)) (.idx (.var 1) (.int 1))) (.cons (.bin .Mult (.idx (.var 0) (.int 1)) (.idx (.var 1) (.int 0))) .nil))))
    .skip)
def d_over : Df := ⟨"over", ["one", "other"], ["one", "other"], m_over⟩
def c1_shared : E :=
  (.cmp .NotEq (.var 1) (.int 0))
def b1_shared : S :=
  (.seq (.par [(0, false), (1, false)] (.cons (.var 1) (.cons (.bin .Mod (.var 0) (.var 1)) .nil)))
    .skip)
def m_shared : S :=
  (.seq (.par [(0, false), (1, false)] (.cons (.blt .abs (.cons (.var 0) .nil)) (.cons (.blt .abs (.cons (.var 1) .nil)) .nil)))
    (.seq (.whl c1_shared b1_shared)
    (.seq (.ret (.var 0))
    .skip)))
def d_shared : Df := ⟨"shared", ["one", "other"], ["one", "other"], m_shared⟩
def m_sign : S :=
  (.seq (.ret (.bin .Sub (.cmp .Gt (.idx (.var 0) (.int 0)) (.int 0)) (.cmp .Lt (.idx (.var 0) (.int 0)) (.int 0))))
    .skip)
def d_sign : Df := ⟨"sign", ["one"], ["one"], m_sign⟩
def e1_law : E :=
  (.call f_law_frac (.cons (.var 1) .nil))
def e2_law : E :=
  (.call f_law_frac (.cons (.var 1) .nil))
def b1_law : S :=
  (.seq (.asg (.name 2) (.call f_law_mul (.cons (.var 2) (.cons (.call f_law_add (.cons (.var 3) (.cons (.call f_law_mul (.cons (.tup (.cons (.bin .Sub (.int 0) (.int 1)) (.cons (.int 1) .nil))) (.cons (.var 10) .nil))) .nil))) .nil))))
    .skip)
def b2_law : S :=
  (.seq (.for (.name 10) .seq (.cons (.var 7) .nil) b1_law)
    .skip)
def e3_law : E :=
  (.call f_law_mul (.cons (.idx (.var 15) (.var 17)) (.cons (.call f_law_raise (.cons (.var 18) (.cons (.var 17) .nil))) .nil)))
def c1_law : E :=
  (.and (.cmp .Eq (.cnt (.var 6) (.var 18)) (.var 16)) (.cmp .NotEq (.call f_law_sum (.cons (.lc [17] (.name 17) .rng1 (.cons (.blt .len (.cons (.var 15) .nil)) .nil) .np e3_law) .nil)) (.tup (.cons (.int 0) (.cons (.int 1) .nil)))))
def e4_law : E :=
  (.var 18)
def b3_law : S :=
  (.seq (.asg (.name 13) (.call f_product (.cons (.var 13) (.cons (.call f_raised (.cons (.var 15) (.cons (.var 16) .nil))) .nil))))
    (.seq (.app 14 (.var 16))
    (.seq (.ite (.or (.cmp .Gt (.call f_degree (.cons (.call f_divisor (.cons (.var 15) (.cons (.call f_slope (.cons (.var 15) .nil)) .nil))) .nil)) (.int 0)) (.cmp .NotEq (.idx (.var 15) (.bin .Sub (.blt .len (.cons (.var 15) .nil)) (.int 1))) (.tup (.cons (.int 1) (.cons (.int 1) .nil)))))
    (.seq (.ret (.bl false))
    .skip)
    .skip)
    (.seq (.ite (.cmp .NotEq (.lc [18] (.name 18) .seq (.cons (.var 6) .nil) c1_law e4_law) (.lst .nil))
    (.seq (.ret (.bl false))
    .skip)
    .skip)
    .skip))))
def c2_law : E :=
  (.cmp .Eq (.cnt (.var 6) (.var 18)) (.var 17))
def e5_law : E :=
  (.var 18)
def c3_law : E :=
  (.cmp .NotEq (.lc [18] (.name 18) .seq (.cons (.var 6) .nil) c2_law e5_law) (.lst .nil))
def e6_law : E :=
  (.var 17)
def t2_law : S :=
  (.seq (.ite (.cmp .NotEq (.var 14) (.blt .sorted (.cons (.lc [17] (.name 17) .seq (.cons (.lst (.cons (.int 1) (.cons (.int 2) (.cons (.int 3) (.cons (.int 4) .nil))))) .nil) c3_law e6_law) .nil)))
    (.seq (.ret (.bl false))
    .skip)
    .skip)
    (.seq (.ite (.not (.call f_law_plain (.cons (.var 8) .nil)))
    (.seq (.ret (.bl false))
    .skip)
    .skip)
    (.seq (.ite (.cmp .NotEq (.told toldHs (.call f_apart (.cons (.tup .nil) .nil))) (.str "no way"))
    (.seq (.ret (.bl false))
    .skip)
    .skip)
    .skip)))
def t1_law : S :=
  (.seq (.ite (.or (.cmp .NotEq (.call f_resultant (.cons (.var 8) (.cons (.var 9) .nil))) (.var 2)) (.or (.cmp .NotEq (.cmp .Eq (.idx (.var 2) (.int 0)) (.int 0)) (.cmp .Gt (.call f_degree (.cons (.call f_divisor (.cons (.var 8) (.cons (.var 9) .nil))) .nil)) (.int 0))) (.cmp .NotEq (.call f_resultant (.cons (.var 8) (.cons (.tup .nil) .nil))) (.tup (.cons (.int 0) (.cons (.int 1) .nil))))))
    (.seq (.ret (.bl false))
    .skip)
    .skip)
    (.seq (.asg (.tup [11, 12]) (.call f_apart (.cons (.var 8) .nil)))
    (.seq (.par [(13, false), (14, true)] (.cons (.tup (.cons (.var 11) .nil)) (.cons (.lst .nil) .nil)))
    (.seq (.for (.tup [15, 16]) .seq (.cons (.var 12) .nil) b3_law)
    (.frz 14
    (.seq (.ite (.or (.cmp .NotEq (.var 13) (.var 8)) (.cmp .NotEq (.var 11) (.var 4)))
    (.seq (.ret (.bl false))
    .skip)
    .skip)
    t2_law))))))
def b4_law : S :=
  (.seq (.par [(4, false), (5, false)] (.cons (.call f_law_made (.cons (.bin .Add (.int 1) (.call f_law_roll (.cons (.var 1) (.cons (.int 5) .nil)))) (.cons (.bin .Add (.int 1) (.call f_law_roll (.cons (.var 1) (.cons (.int 3) .nil)))) .nil))) (.cons (.call f_law_made (.cons (.bin .Sub (.bin .Sub (.int 0) (.int 1)) (.call f_law_roll (.cons (.var 1) (.cons (.int 4) .nil)))) (.cons (.bin .Add (.int 1) (.call f_law_roll (.cons (.var 1) (.cons (.int 2) .nil)))) .nil))) .nil)))
    (.seq (.asg (.tup [6, 7]) (.tup (.cons (.lc [17] (.name 17) .rng1 (.cons (.call f_law_roll (.cons (.var 1) (.cons (.int 4) .nil))) .nil) .np e1_law) (.cons (.lc [17] (.name 17) .rng1 (.cons (.call f_law_roll (.cons (.var 1) (.cons (.int 4) .nil))) .nil) .np e2_law) .nil))))
    (.seq (.par [(8, false), (9, false)] (.cons (.call f_law_of_roots (.cons (.var 4) (.cons (.var 6) .nil))) (.cons (.call f_law_of_roots (.cons (.var 5) (.cons (.var 7) .nil))) .nil)))
    (.seq (.asg (.name 2) (.call f_law_mul (.cons (.call f_law_raise (.cons (.var 4) (.cons (.blt .len (.cons (.var 7) .nil)) .nil))) (.cons (.call f_law_raise (.cons (.var 5) (.cons (.blt .len (.cons (.var 6) .nil)) .nil))) .nil))))
    (.seq (.for (.name 3) .seq (.cons (.var 6) .nil) b2_law)
    t1_law)))))
def m_law : S :=
  (.seq (.for (.name 1) .seq (.cons (.call f_law_rounds (.cons (.var 0) (.cons (.int 3) .nil))) .nil) b4_law)
    (.seq (.ret (.bl true))
    .skip))
def d_law : Df := ⟨"law", ["script"], ["script", "dice", "due", "a", "p", "q", "mine", "theirs", "f", "g", "b", "number", "parts_there", "whole", "often", "part", "many", "k", "root"], m_law⟩
def defs : List Df := [d_law_rounds, d_law_made, d_law_roll, d_law_frac, d_law_of_roots, d_law_mul, d_law_raise, d_law_add, d_resultant, d_degree, d_divisor, d_apart, d_product, d_raised, d_slope, d_law_sum, d_law_plain, d_law_dice, d_of, d_times, d_minus, d_parted, d_lead, d_monic, d_plus, d_cut, d_plain, d_content, d_scaled, d_of_wholes, d_law_gcd, d_made, d_over, d_shared, d_sign]
def errX : List Str := ["BadNumber", "BadForm", "NoWay", "TooLarge"]
def consts : List (Str × D) := [("ONE", .tup [.tup [.int (1), .int (1)]])]
def Gc (g : Nat) : D := match consts[g]? with
  | some p => p.2
  | none => .non
abbrev PF (k : Nat) : Par := progF errX Gc fuel defs k
end Mini
namespace Mini
theorem q_mk (q : Rat) : Rat.divInt q.num q.den = q := by rw [Rat.divInt_ofNat, Rat.mkRat_self]
theorem q_div (q : Rat) : q = (q.num : Rat) / (q.den : Rat) := by
  have := q_mk q
  rw [Rat.divInt_eq_div] at this
  exact this.symm
theorem den_ne (q : Rat) : (q.den : Int) ≠ 0 := by have := q.den_nz; omega
theorem num0 {q : Rat} : q.num = 0 ↔ q = 0 := Rat.num_eq_zero
theorem made_num (t b : Int) (h : b ≠ 0) : t.fdiv (if b < 0 then -(Int.gcd t b : Nat) else (Int.gcd t b : Nat)) = (Rat.divInt t b).num := by
  rw [Rat.num_divInt, Int.gcd_comm b t]
  have hd : ((Int.gcd t b : Nat) : Int) ∣ t := Int.gcd_dvd_left ..
  by_cases hb : b < 0
  · rw [if_pos hb, Int.sign_eq_neg_one_of_neg hb, Int.fdiv_eq_ediv_of_dvd (Int.neg_dvd.mpr hd), Int.ediv_neg, Int.neg_mul, Int.one_mul, Int.neg_ediv_of_dvd hd]
  · rw [if_neg hb, Int.sign_eq_one_of_pos (by omega), Int.fdiv_eq_ediv_of_dvd hd, Int.one_mul]
theorem made_den (t b : Int) (h : b ≠ 0) : b.fdiv (if b < 0 then -(Int.gcd t b : Nat) else (Int.gcd t b : Nat)) = ((Rat.divInt t b).den : Nat) := by
  rw [Rat.den_divInt, if_neg h, Int.gcd_comm b t]
  have hd : ((Int.gcd t b : Nat) : Int) ∣ b := Int.gcd_dvd_right ..
  have e : ((b.natAbs / Int.gcd t b : Nat) : Int) = (b.natAbs : Int) / (Int.gcd t b : Nat) := Int.natCast_ediv ..
  rw [e]
  by_cases hb : b < 0
  · rw [if_pos hb, Int.fdiv_eq_ediv_of_dvd (Int.neg_dvd.mpr hd), Int.ediv_neg, ← Int.neg_ediv_of_dvd hd]
    congr 1
    omega
  · rw [if_neg hb, Int.fdiv_eq_ediv_of_dvd hd]
    congr 1
    omega
theorem q_add (a b : Rat) : Rat.divInt (a.num * b.den + b.num * a.den) (a.den * b.den) = a + b := by
  rw [← Rat.divInt_add_divInt _ _ (den_ne a) (den_ne b), q_mk, q_mk]
theorem q_sub (a b : Rat) : Rat.divInt (a.num * b.den - b.num * a.den) (a.den * b.den) = a - b := by
  rw [← Rat.divInt_sub_divInt _ _ (den_ne a) (den_ne b), q_mk, q_mk]
theorem q_mul (a b : Rat) : Rat.divInt (a.num * b.num) (a.den * b.den) = a * b := by
  rw [← Rat.divInt_mul_divInt, q_mk, q_mk]
theorem q_over (a b : Rat) : Rat.divInt (a.num * b.den) (a.den * b.num) = a / b := by
  rw [← Rat.divInt_mul_divInt, q_mk, ← Rat.inv_divInt, q_mk, Rat.div_def]

def Fb (n : Nat) (q : Rat) : Prop := q.num.natAbs < 2 ^ n ∧ q.den < 2 ^ n
theorem Fb.mono {n m : Nat} {q : Rat} (h : Fb n q) (l : n ≤ m) : Fb m q :=
  ⟨Nat.lt_of_lt_of_le h.1 (Nat.pow_le_pow_right (by omega) l), Nat.lt_of_lt_of_le h.2 (Nat.pow_le_pow_right (by omega) l)⟩
theorem natAbs_lt_pow {t u : Int} {n m : Nat} (h : t.natAbs < 2 ^ n) (g : u.natAbs < 2 ^ m) : (t * u).natAbs < 2 ^ (n + m) := by
  rw [Int.natAbs_mul, Nat.pow_add]
  exact Nat.mul_lt_mul'' h g
theorem nat_lt_pow {t u : Nat} {n m : Nat} (h : t < 2 ^ n) (g : u < 2 ^ m) : t * u < 2 ^ (n + m) := by
  rw [Nat.pow_add]
  exact Nat.mul_lt_mul'' h g
theorem add_lt_pow {t u : Int} {n : Nat} (h : t.natAbs < 2 ^ n) (g : u.natAbs < 2 ^ n) : (t + u).natAbs < 2 ^ (n + 1) := by
  have := Int.natAbs_add_le t u
  rw [Nat.pow_succ]
  omega
theorem divInt_top {t b : Int} : (Rat.divInt t b).num.natAbs ≤ t.natAbs := by
  rw [Rat.num_divInt]
  have h1 : (b.sign * t / (b.gcd t : Nat)).natAbs ≤ (b.sign * t).natAbs := Int.natAbs_ediv_le_natAbs _ _
  have h2 : (b.sign * t).natAbs ≤ t.natAbs := by
    rw [Int.natAbs_mul]
    have : b.sign.natAbs ≤ 1 := by
      rcases Int.lt_trichotomy b 0 with z | z | z
      · rw [Int.sign_eq_neg_one_of_neg z]; decide
      · rw [z]; decide
      · rw [Int.sign_eq_one_of_pos z]; decide
    calc b.sign.natAbs * t.natAbs ≤ 1 * t.natAbs := Nat.mul_le_mul_right _ this
      _ = t.natAbs := Nat.one_mul _
  omega
theorem divInt_bot {t b : Int} (h : b ≠ 0) : (Rat.divInt t b).den ≤ b.natAbs := by
  rw [Rat.den_divInt, if_neg h]
  exact Nat.div_le_self _ _
theorem Fb.divInt {n : Nat} {t b : Int} (h : b ≠ 0) (h1 : t.natAbs < 2 ^ n) (h2 : b.natAbs < 2 ^ n) : Fb n (Rat.divInt t b) :=
  ⟨Nat.lt_of_le_of_lt divInt_top h1, Nat.lt_of_le_of_lt (divInt_bot h) h2⟩

def Hb (n : Nat) (p : List Rat) : Prop := ∃ d : Nat, 0 < d ∧ d < 2 ^ n ∧ ∀ q, q ∈ p → ∃ z : Int, q = (z : Rat) / (d : Rat) ∧ z.natAbs < 2 ^ n
theorem nat_neR {d : Nat} (h : 0 < d) : (d : Rat) ≠ 0 := fun z => by
  have := Rat.natCast_eq_zero_iff.mp z
  omega
theorem Hb.mono {n m : Nat} {p : List Rat} (h : Hb n p) (l : n ≤ m) : Hb m p := by
  obtain ⟨d, h1, h2, h3⟩ := h
  have := Nat.pow_le_pow_right (show 0 < 2 by omega) l
  exact ⟨d, h1, by omega, fun q hq => by
    obtain ⟨z, e, hz⟩ := h3 q hq
    exact ⟨z, e, by omega⟩⟩
theorem Hb.fb {n : Nat} {p : List Rat} (h : Hb n p) {q : Rat} (hq : q ∈ p) : Fb n q := by
  obtain ⟨d, h1, h2, h3⟩ := h
  obtain ⟨z, e, hz⟩ := h3 q hq
  have e2 : q = Rat.divInt z d := by rw [Rat.divInt_eq_div]; exact e
  rw [e2]
  exact Fb.divInt (by omega) hz (by simpa using h2)
theorem Hb.sub {n : Nat} {p r : List Rat} (h : Hb n p) (hs : ∀ q, q ∈ r → q ∈ p) : Hb n r := by
  obtain ⟨d, h1, h2, h3⟩ := h
  exact ⟨d, h1, h2, fun q hq => h3 q (hs q hq)⟩
theorem Fb.hb {n : Nat} {q : Rat} (h : Fb n q) : Hb n [q] := by
  refine ⟨q.den, q.den_pos, h.2, fun r hr => ?_⟩
  rw [List.mem_singleton.mp hr]
  exact ⟨q.num, q_div q, h.1⟩
theorem Hb.zero {n : Nat} {p : List Rat} (h : Hb n p) : Hb n (0 :: p) := by
  obtain ⟨d, h1, h2, h3⟩ := h
  refine ⟨d, h1, h2, fun q hq => ?_⟩
  rcases List.mem_cons.mp hq with e | hq
  · refine ⟨0, ?_, Nat.two_pow_pos n⟩
    rw [e]
    have := nat_neR h1
    grind
  · exact h3 q hq
theorem Hb.comb {n m : Nat} {p r : List Rat} (hp : Hb n p) (hr : Hb m r) :
    ∃ d : Nat, 0 < d ∧ d < 2 ^ (n + m) ∧ (∀ a b, a ∈ p → b ∈ r → ∃ z : Int, a * b = (z : Rat) / (d : Rat) ∧ z.natAbs < 2 ^ (n + m)) ∧
      (∀ a, a ∈ p → ∃ z : Int, a = (z : Rat) / (d : Rat) ∧ z.natAbs < 2 ^ (n + m)) ∧ (∀ a, a ∈ r → ∃ z : Int, a = (z : Rat) / (d : Rat) ∧ z.natAbs < 2 ^ (n + m)) := by
  obtain ⟨d, h1, h2, h3⟩ := hp
  obtain ⟨e, g1, g2, g3⟩ := hr
  have hd := nat_neR h1
  have he := nat_neR g1
  refine ⟨d * e, Nat.mul_pos h1 g1, nat_lt_pow h2 g2, fun a b ha hb => ?_, fun a ha => ?_, fun a ha => ?_⟩
  · obtain ⟨z, ez, hz⟩ := h3 a ha
    obtain ⟨y, ey, hy⟩ := g3 b hb
    refine ⟨z * y, ?_, natAbs_lt_pow hz hy⟩
    rw [ez, ey, Rat.natCast_mul, Rat.intCast_mul]
    grind
  · obtain ⟨z, ez, hz⟩ := h3 a ha
    refine ⟨z * (e : Int), ?_, natAbs_lt_pow hz (by simpa using g2)⟩
    rw [ez, Rat.natCast_mul, Rat.intCast_mul, Rat.intCast_natCast]
    grind
  · obtain ⟨z, ez, hz⟩ := g3 a ha
    refine ⟨(d : Int) * z, ?_, natAbs_lt_pow (by simpa using h2) hz⟩
    rw [ez, Rat.natCast_mul, Rat.intCast_mul, Rat.intCast_natCast]
    grind
end Mini
namespace Mini
def sm (f : Nat → Rat) : Nat → Rat
  | 0 => 0
  | n + 1 => sm f n + f n
theorem sm_head (f : Nat → Rat) : ∀ n, sm f (n + 1) = f 0 + sm (fun k => f (k + 1)) n
  | 0 => by show 0 + f 0 = f 0 + 0; grind
  | n + 1 => by
    show sm f (n + 1) + f (n + 1) = f 0 + (sm (fun k => f (k + 1)) n + f (n + 1))
    rw [sm_head f n]
    grind
theorem sm_congr {f g : Nat → Rat} : ∀ {n : Nat}, (∀ k, k < n → f k = g k) → sm f n = sm g n
  | 0, _ => rfl
  | n + 1, h => by
    show sm f n + f n = sm g n + g n
    rw [sm_congr fun k hk => h k (by omega), h n (by omega)]
theorem sm_add (f g : Nat → Rat) : ∀ n, sm (fun k => f k + g k) n = sm f n + sm g n
  | 0 => by show (0 : Rat) = 0 + 0; grind
  | n + 1 => by
    show sm (fun k => f k + g k) n + (f n + g n) = sm f n + f n + (sm g n + g n)
    rw [sm_add f g n]; grind
theorem sm_sub (f g : Nat → Rat) : ∀ n, sm (fun k => f k - g k) n = sm f n - sm g n
  | 0 => by show (0 : Rat) = 0 - 0; grind
  | n + 1 => by
    show sm (fun k => f k - g k) n + (f n - g n) = sm f n + f n - (sm g n + g n)
    rw [sm_sub f g n]; grind
theorem sm_mul (c : Rat) (f : Nat → Rat) : ∀ n, sm (fun k => c * f k) n = c * sm f n
  | 0 => by show (0 : Rat) = c * 0; grind
  | n + 1 => by
    show sm (fun k => c * f k) n + c * f n = c * (sm f n + f n)
    rw [sm_mul c f n]; grind
theorem sm_zero {f : Nat → Rat} : ∀ {n m : Nat}, (∀ k, n ≤ k → f k = 0) → n ≤ m → sm f m = sm f n
  | n, 0, _, h => by rw [show n = 0 by omega]
  | n, m + 1, hz, h => by
    by_cases e : n = m + 1
    · rw [e]
    · show sm f m + f m = _
      rw [sm_zero hz (show n ≤ m by omega), hz m (by omega)]
      grind
theorem gD_ge {p : List Rat} {k : Nat} (h : p.length ≤ k) : p.getD k 0 = 0 := by
  rw [List.getD_eq_getElem?_getD, List.getElem?_eq_none h]; rfl
theorem gD_lt {p : List Rat} {k : Nat} (h : k < p.length) : p.getD k 0 = p[k] := by
  rw [List.getD_eq_getElem?_getD, List.getElem?_eq_getElem h]; rfl
def cf (p : List Rat) (k : Nat) : Rat := p.getD k 0
@[simp] theorem cf_nil (k : Nat) : cf [] k = 0 := rfl
@[simp] theorem cf_zero (a : Rat) (p : List Rat) : cf (a :: p) 0 = a := rfl
@[simp] theorem cf_succ (a : Rat) (p : List Rat) (k : Nat) : cf (a :: p) (k + 1) = cf p k := rfl
theorem cf_ge {p : List Rat} {k : Nat} (h : p.length ≤ k) : cf p k = 0 := by
  unfold cf
  rw [gD_ge h]
theorem cf_mem {p : List Rat} {k : Nat} (h : k < p.length) : cf p k ∈ p := by
  unfold cf
  rw [gD_lt h]
  exact List.getElem_mem h
theorem cf_mem0 (p : List Rat) (k : Nat) : cf p k ∈ 0 :: p := by
  by_cases h : k < p.length
  · exact List.mem_cons_of_mem _ (cf_mem h)
  · rw [cf_ge (by omega)]; exact List.mem_cons_self
theorem cf_map (f : Nat → Rat) (n k : Nat) : cf ((List.range n).map f) k = if k < n then f k else 0 := by
  split
  · rename_i h
    unfold cf
    rw [gD_lt (by simpa using h)]
    simp
  · rename_i h
    exact cf_ge (by simpa using h)
theorem cf_map0 {f : Nat → Rat} {n : Nat} (h : ∀ k, n ≤ k → f k = 0) (k : Nat) : cf ((List.range n).map f) k = f k := by
  rw [cf_map]
  split
  · rfl
  · rw [h k (by omega)]
theorem cf_getElem {p : List Rat} {k : Nat} (h : k < p.length) : p[k]? = some (cf p k) := by
  rw [List.getElem?_eq_getElem h]
  unfold cf
  rw [gD_lt h]
theorem cf_append_l {p q : List Rat} {k : Nat} (h : k < p.length) : cf (p ++ q) k = cf p k := by
  have a := cf_getElem (p := p ++ q) (k := k) (by rw [List.length_append]; omega)
  rw [List.getElem?_append_left h, cf_getElem h] at a
  exact (Option.some.inj a).symm
theorem cf_set {p : List Rat} {i : Nat} (h : i < p.length) (v : Rat) (k : Nat) : cf (p.set i v) k = if k = i then v else cf p k := by
  unfold cf
  rw [List.getD_eq_getElem?_getD, List.getD_eq_getElem?_getD, List.getElem?_set]
  by_cases e : i = k
  · rw [if_pos e, if_pos h, if_pos e.symm]; rfl
  · rw [if_neg e, if_neg fun z => e z.symm]
def ev : List Rat → Rat → Rat
  | [], _ => 0
  | a :: p, x => a + x * ev p x
@[simp] theorem evq_nil (x : Rat) : ev [] x = 0 := rfl
theorem evq_cons (a : Rat) (p : List Rat) (x : Rat) : ev (a :: p) x = a + x * ev p x := rfl
theorem evq_sm : ∀ (p : List Rat) (x : Rat) (N : Nat), p.length ≤ N → ev p x = sm (fun k => cf p k * x ^ k) N
  | [], x, N, _ => by
    have : sm (fun k => cf [] k * x ^ k) N = sm (fun k => cf [] k * x ^ k) 0 := sm_zero (fun k _ => by rw [cf_nil]; grind) (Nat.zero_le _)
    rw [this]; rfl
  | a :: p, x, 0, h => by simp at h
  | a :: p, x, N + 1, h => by
    rw [evq_cons, evq_sm p x N (by simpa using h), sm_head, ← sm_mul]
    congr 1
    · rw [cf_zero, Rat.pow_zero]; grind
    · exact sm_congr fun k _ => by
        rw [cf_succ, Rat.pow_succ]; grind
theorem evq_congr {p q : List Rat} (h : ∀ k, cf p k = cf q k) (x : Rat) : ev p x = ev q x := by
  rw [evq_sm p x (max p.length q.length) (by omega), evq_sm q x (max p.length q.length) (by omega)]
  exact sm_congr fun k _ => by rw [h k]
def trim : List Rat → List Rat
  | [] => []
  | a :: p => if trim p = [] then (if a = 0 then [] else [a]) else a :: trim p
theorem cf_trim : ∀ (p : List Rat) (k : Nat), cf (trim p) k = cf p k
  | [], k => rfl
  | a :: p, k => by
    have ih := cf_trim p
    unfold trim
    split
    · rename_i h
      rw [h] at ih
      split
      · rename_i ha
        cases k with
        | zero => rw [cf_zero, ha]; rfl
        | succ k => rw [cf_succ, ← ih k]; rfl
      · cases k with
        | zero => rfl
        | succ k => rw [cf_succ, cf_succ, ← ih k]
    · cases k with
      | zero => rfl
      | succ k => rw [cf_succ, cf_succ, ih k]
theorem evq_trim (p : List Rat) (x : Rat) : ev (trim p) x = ev p x := evq_congr (cf_trim p) x
theorem trim_len : ∀ p : List Rat, (trim p).length ≤ p.length
  | [] => Nat.le_refl _
  | a :: p => by
    have := trim_len p
    unfold trim
    split
    · split
      · simp
      · simp
    · simpa using this
def Tr (p : List Rat) : Prop := p = [] ∨ cf p (p.length - 1) ≠ 0
theorem trim_tr : ∀ p : List Rat, Tr (trim p)
  | [] => .inl rfl
  | a :: p => by
    have ih := trim_tr p
    unfold trim
    split
    · split
      · exact .inl rfl
      · rename_i ha
        exact .inr ha
    · rename_i h
      rcases ih with z | z
      · exact absurd z h
      · refine .inr ?_
        cases hq : trim p with
        | nil => exact absurd hq h
        | cons b q =>
          rw [hq] at z
          simpa using z
theorem tr_nil : Tr [] := .inl rfl
theorem tr_len {p q : List Rat} (h : ∀ k, cf p k = cf q k) (hp : Tr p) : p.length ≤ q.length := by
  rcases hp with hp | hp
  · rw [hp]; simp
  · apply Classical.byContradiction
    intro hl
    exact hp (by rw [h, cf_ge (by omega)])
theorem tr_ext {p q : List Rat} (hp : Tr p) (hq : Tr q) (h : ∀ k, cf p k = cf q k) : p = q := by
  have l1 := tr_len h hp
  have l2 := tr_len (fun k => (h k).symm) hq
  apply List.ext_getElem (by omega)
  intro i h1 h2
  have := h i
  unfold cf at this
  rwa [gD_lt h1, gD_lt h2] at this
theorem tr_trim {p : List Rat} (h : Tr p) : trim p = p := tr_ext (trim_tr p) h (cf_trim p)
theorem trim_ext {p q : List Rat} (h : ∀ k, cf p k = cf q k) : trim p = trim q := tr_ext (trim_tr p) (trim_tr q) fun k => by rw [cf_trim, cf_trim, h]
theorem trim_mem {p : List Rat} {a : Rat} (h : a ∈ trim p) : a ∈ p := by
  induction p with
  | nil => exact h
  | cons b p ih =>
    unfold trim at h
    split at h
    · split at h
      · simp at h
      · rw [List.mem_singleton.mp h]; exact List.mem_cons_self
    · rcases List.mem_cons.mp h with e | h
      · rw [e]; exact List.mem_cons_self
      · exact List.mem_cons_of_mem _ (ih h)
theorem trim_snoc0 (p : List Rat) : trim (p ++ [0]) = trim p := trim_ext fun k => by
  by_cases h : k < p.length
  · exact cf_append_l h
  · rw [cf_ge (p := p) (by omega)]
    by_cases h2 : k = p.length
    · unfold cf
      rw [List.getD_eq_getElem?_getD, List.getElem?_append_right (by omega), h2]
      simp
    · exact cf_ge (by rw [List.length_append]; simp; omega)
theorem tr_snoc {p : List Rat} {a : Rat} (h : a ≠ 0) : Tr (p ++ [a]) := .inr (by
  unfold cf
  rw [List.getD_eq_getElem?_getD]
  simpa using h)
def syn (a : Rat) : List Rat → List Rat
  | [] => []
  | _ :: p => if p = [] then [] else ev p a :: syn a p
theorem syn_len (a : Rat) : ∀ p : List Rat, (syn a p).length = p.length - 1
  | [] => rfl
  | c :: p => by
    unfold syn
    split
    · rename_i h; rw [h]; rfl
    · rename_i h
      rw [List.length_cons, syn_len a p]
      have := List.length_pos_iff.mpr h
      simp; omega
theorem syn_ev (a : Rat) : ∀ (p : List Rat) (x : Rat), ev p x = (x - a) * ev (syn a p) x + ev p a
  | [], x => by simp [syn]; grind
  | c :: p, x => by
    have ih := syn_ev a p x
    unfold syn
    split
    · rename_i h; rw [h]; simp [evq_cons]; grind
    · rw [evq_cons, evq_cons, evq_cons, ih]; grind
theorem syn_zero (a : Rat) : ∀ p : List Rat, (∀ c, c ∈ syn a p → c = 0) → ev p a = 0 → ∀ c, c ∈ p → c = 0
  | [], _, _, c, hc => by simp at hc
  | b :: p, h, he, c, hc => by
    rw [evq_cons] at he
    by_cases hp : p = []
    · subst hp
      rw [List.mem_singleton.mp hc]
      rw [evq_nil] at he
      grind
    · unfold syn at h
      rw [if_neg hp] at h
      have e1 := h _ List.mem_cons_self
      rcases List.mem_cons.mp hc with e | hc
      · rw [e]; rw [e1] at he; grind
      · exact syn_zero a p (fun d hd => h d (List.mem_cons_of_mem _ hd)) e1 c hc
theorem roots_few : ∀ (rs : List Rat) (p : List Rat), rs.Nodup → (∀ r, r ∈ rs → ev p r = 0) → p.length ≤ rs.length → ∀ c, c ∈ p → c = 0
  | [], p, _, _, h, c, hc => by
    have : p = [] := List.length_eq_zero_iff.mp (by simpa using h)
    rw [this] at hc; simp at hc
  | a :: rs, p, hn, hr, h, c, hc => by
    have ha := hr a List.mem_cons_self
    rw [List.nodup_cons] at hn
    refine syn_zero a p (roots_few rs (syn a p) hn.2 (fun r hr2 => ?_) (by rw [syn_len]; simp at h; omega)) ha c hc
    have e := syn_ev a p r
    rw [hr r (List.mem_cons_of_mem _ hr2), ha] at e
    have : r - a ≠ 0 := fun z => hn.1 (by rw [show a = r by grind]; exact hr2)
    grind
theorem many_nodup (n : Nat) : ((List.range n).map fun k => ((k : Nat) : Rat)).Nodup := by
  rw [List.nodup_iff_pairwise_ne, List.pairwise_map]
  exact List.nodup_range.imp fun h e => h (Rat.natCast_inj.mp e)
def padd (p q : List Rat) : List Rat := trim ((List.range (max p.length q.length)).map fun k => cf p k + cf q k)
def psub (p q : List Rat) : List Rat := trim ((List.range (max p.length q.length)).map fun k => cf p k - cf q k)
def pscal (p : List Rat) (c : Rat) : List Rat := trim (p.map fun a => a * c)
theorem cf_padd (p q : List Rat) (k : Nat) : cf (padd p q) k = cf p k + cf q k := by
  unfold padd
  rw [cf_trim, cf_map0 fun k hk => by rw [cf_ge (p := p) (by omega), cf_ge (p := q) (by omega)]; grind]
theorem cf_psub (p q : List Rat) (k : Nat) : cf (psub p q) k = cf p k - cf q k := by
  unfold psub
  rw [cf_trim, cf_map0 fun k hk => by rw [cf_ge (p := p) (by omega), cf_ge (p := q) (by omega)]; grind]
theorem cf_pmap (p : List Rat) (c : Rat) (k : Nat) : cf (p.map fun a => a * c) k = cf p k * c := by
  by_cases h : k < p.length
  · have a := cf_getElem (p := p.map fun a => a * c) (k := k) (by simpa using h)
    rw [List.getElem?_map, cf_getElem h] at a
    exact (Option.some.inj a).symm
  · rw [cf_ge (p := p) (by omega), cf_ge (by simpa using h)]; grind
theorem cf_pscal (p : List Rat) (c : Rat) (k : Nat) : cf (pscal p c) k = cf p k * c := by
  unfold pscal
  rw [cf_trim, cf_pmap]
theorem evq_padd (p q : List Rat) (x : Rat) : ev (padd p q) x = ev p x + ev q x := by
  have l : (padd p q).length ≤ max p.length q.length := by
    have := trim_len ((List.range (max p.length q.length)).map fun k => cf p k + cf q k)
    unfold padd; simpa using this
  rw [evq_sm _ x _ l, evq_sm p x (max p.length q.length) (by omega), evq_sm q x (max p.length q.length) (by omega), ← sm_add]
  exact sm_congr fun k _ => by rw [cf_padd]; grind
theorem evq_psub (p q : List Rat) (x : Rat) : ev (psub p q) x = ev p x - ev q x := by
  have l : (psub p q).length ≤ max p.length q.length := by
    have := trim_len ((List.range (max p.length q.length)).map fun k => cf p k - cf q k)
    unfold psub; simpa using this
  rw [evq_sm _ x _ l, evq_sm p x (max p.length q.length) (by omega), evq_sm q x (max p.length q.length) (by omega), ← sm_sub]
  exact sm_congr fun k _ => by rw [cf_psub]; grind
theorem evq_pscal (p : List Rat) (c x : Rat) : ev (pscal p c) x = ev p x * c := by
  have l : (pscal p c).length ≤ p.length := by
    have := trim_len (p.map fun a => a * c)
    unfold pscal; simpa using this
  rw [evq_sm _ x _ l, evq_sm p x p.length (by omega), show sm (fun k => cf p k * x ^ k) p.length * c = c * sm (fun k => cf p k * x ^ k) p.length by grind, ← sm_mul]
  exact sm_congr fun k _ => by rw [cf_pscal]; grind
theorem padd_len (p q : List Rat) : (padd p q).length ≤ max p.length q.length := by
  have := trim_len ((List.range (max p.length q.length)).map fun k => cf p k + cf q k)
  unfold padd; simpa using this
theorem psub_len (p q : List Rat) : (psub p q).length ≤ max p.length q.length := by
  have := trim_len ((List.range (max p.length q.length)).map fun k => cf p k - cf q k)
  unfold psub; simpa using this
theorem pscal_len (p : List Rat) (c : Rat) : (pscal p c).length ≤ p.length := by
  have := trim_len (p.map fun a => a * c)
  unfold pscal; simpa using this
theorem padd_tr (p q : List Rat) : Tr (padd p q) := trim_tr _
theorem psub_tr (p q : List Rat) : Tr (psub p q) := trim_tr _
theorem pscal_tr (p : List Rat) (c : Rat) : Tr (pscal p c) := trim_tr _
theorem cf_of_ev {p q : List Rat} (h : ∀ x, ev p x = ev q x) (k : Nat) : cf p k = cf q k := by
  have hz : ∀ c, c ∈ psub p q → c = 0 := roots_few _ _ (many_nodup (psub p q).length) (fun r _ => by rw [evq_psub, h r]; grind) (by simp)
  have e := cf_psub p q k
  by_cases hk : k < (psub p q).length
  · rw [hz _ (cf_mem hk)] at e; grind
  · rw [cf_ge (by omega)] at e; grind
theorem evq_ext {p q : List Rat} (hp : Tr p) (hq : Tr q) (h : ∀ x, ev p x = ev q x) : p = q := tr_ext hp hq (cf_of_ev h)
def mulL : List Rat → List Rat → List Rat
  | [], _ => []
  | a :: p, q => padd (pscal q a) (0 :: mulL p q)
def pmul (p q : List Rat) : List Rat := trim (mulL p q)
theorem evq_mulL : ∀ (p q : List Rat) (x : Rat), ev (mulL p q) x = ev p x * ev q x
  | [], q, x => by show (0 : Rat) = 0 * _; grind
  | a :: p, q, x => by
    show ev (padd (pscal q a) (0 :: mulL p q)) x = _
    rw [evq_padd, evq_pscal, evq_cons, evq_cons, evq_mulL p q x]
    grind
theorem evq_pmul (p q : List Rat) (x : Rat) : ev (pmul p q) x = ev p x * ev q x := by
  unfold pmul
  rw [evq_trim, evq_mulL]
theorem pmul_tr (p q : List Rat) : Tr (pmul p q) := trim_tr _
theorem mulL_len : ∀ (p q : List Rat), (mulL p q).length ≤ p.length + q.length - 1
  | [], q => by simp [mulL]
  | a :: p, q => by
    have h1 := padd_len (pscal q a) (0 :: mulL p q)
    have h2 := pscal_len q a
    have h3 := mulL_len p q
    show (padd (pscal q a) (0 :: mulL p q)).length ≤ _
    by_cases hp : p = []
    · subst hp
      have e : padd (pscal q a) (0 :: mulL [] q) = padd (pscal q a) [] := tr_ext (padd_tr _ _) (padd_tr _ _) fun k => by
        rw [cf_padd, cf_padd]
        cases k <;> rfl
      rw [e]
      have h4 := padd_len (pscal q a) []
      simp at h4 ⊢
      omega
    · have := List.length_pos_iff.mpr hp
      simp only [List.length_cons] at h1 ⊢
      omega
theorem pmul_len (p q : List Rat) : (pmul p q).length ≤ p.length + q.length - 1 := Nat.le_trans (trim_len _) (mulL_len p q)
theorem mulL_top : ∀ (p q : List Rat), p ≠ [] → q ≠ [] → cf (mulL p q) (p.length + q.length - 2) = cf p (p.length - 1) * cf q (q.length - 1)
  | [], q, h, _ => absurd rfl h
  | a :: p, q, _, hq => by
    show cf (padd (pscal q a) (0 :: mulL p q)) _ = _
    have lq := List.length_pos_iff.mpr hq
    rw [cf_padd, cf_pscal]
    by_cases hp : p = []
    · subst hp
      have e1 : ([a] : List Rat).length + q.length - 2 = q.length - 1 := by simp; omega
      rw [e1]
      have e2 : cf (0 :: mulL [] q) (q.length - 1) = 0 := by
        cases q.length - 1 <;> rfl
      rw [e2]
      show cf q _ * a + 0 = a * cf q _
      grind
    · have lp := List.length_pos_iff.mpr hp
      have ih := mulL_top p q hp hq
      have e1 : (a :: p).length + q.length - 2 = (p.length + q.length - 2) + 1 := by simp; omega
      have e2 : (a :: p).length - 1 = (p.length - 1) + 1 := by simp; omega
      rw [e1, e2, cf_succ, cf_succ, ih, cf_ge (by omega)]
      grind
theorem pmul_length {p q : List Rat} (hp : Tr p) (hq : Tr q) (np : p ≠ []) (nq : q ≠ []) : (pmul p q).length = p.length + q.length - 1 := by
  have h1 := pmul_len p q
  have h2 := mulL_top p q np nq
  rcases hp with hp | hp
  · exact absurd hp np
  rcases hq with hq | hq
  · exact absurd hq nq
  have lp := List.length_pos_iff.mpr np
  have lq := List.length_pos_iff.mpr nq
  have : cf (pmul p q) (p.length + q.length - 2) ≠ 0 := by
    unfold pmul
    rw [cf_trim, h2]
    intro z
    rcases Rat.mul_eq_zero.mp z with z | z
    · exact hp z
    · exact hq z
  have : p.length + q.length - 2 < (pmul p q).length := by
    apply Classical.byContradiction
    intro z
    exact this (cf_ge (by omega))
  omega
def dv : List Rat → Rat → Rat
  | [], _ => 0
  | _ :: p, x => ev p x + x * dv p x
theorem dv_cons (a : Rat) (p : List Rat) (x : Rat) : dv (a :: p) x = ev p x + x * dv p x := rfl
def pslope (p : List Rat) : List Rat := trim ((List.range (p.length - 1)).map fun k => ((k + 1 : Nat) : Rat) * cf p (k + 1))
theorem cf_pslope (p : List Rat) (k : Nat) : cf (pslope p) k = ((k + 1 : Nat) : Rat) * cf p (k + 1) := by
  unfold pslope
  rw [cf_trim, cf_map0 fun k hk => by rw [cf_ge (p := p) (by omega)]; grind]
theorem pslope_tr (p : List Rat) : Tr (pslope p) := trim_tr _
theorem dv_sm : ∀ (p : List Rat) (x : Rat) (N : Nat), p.length ≤ N → dv p x = sm (fun k => (((k + 1 : Nat) : Rat) * cf p (k + 1)) * x ^ k) N
  | [], x, N, _ => by
    have : sm (fun k => (((k + 1 : Nat) : Rat) * cf [] (k + 1)) * x ^ k) N = sm (fun k => (((k + 1 : Nat) : Rat) * cf [] (k + 1)) * x ^ k) 0 := sm_zero (fun k _ => by rw [cf_nil]; grind) (Nat.zero_le _)
    rw [this]; rfl
  | a :: p, x, 0, h => by simp at h
  | a :: p, x, N + 1, h => by
    rw [dv_cons, evq_sm p x (N + 1) (by simp at h; omega), dv_sm p x N (by simpa using h)]
    have e : x * sm (fun k => (((k + 1 : Nat) : Rat) * cf p (k + 1)) * x ^ k) N = sm (fun k => ((k : Nat) : Rat) * cf p k * x ^ k) (N + 1) := by
      rw [sm_head, ← sm_mul]
      have e0 : ((0 : Nat) : Rat) * cf p 0 * x ^ 0 = 0 := by
        rw [show ((0 : Nat) : Rat) = 0 from rfl]; grind
      rw [e0, show ∀ z : Rat, 0 + z = z from fun z => by grind]
      exact sm_congr fun k _ => by
        rw [Rat.pow_succ]; grind
    rw [e, ← sm_add]
    exact sm_congr fun k _ => by
      rw [cf_succ, Rat.natCast_add]
      grind
theorem evq_pslope (p : List Rat) (x : Rat) : ev (pslope p) x = dv p x := by
  have l : (pslope p).length ≤ p.length := by
    have := trim_len ((List.range (p.length - 1)).map fun k => ((k + 1 : Nat) : Rat) * cf p (k + 1))
    unfold pslope
    simp only [List.length_map, List.length_range] at this
    omega
  rw [evq_sm _ x _ l, dv_sm p x p.length (by omega)]
  exact sm_congr fun k _ => by rw [cf_pslope]
theorem dv_congr {p q : List Rat} (h : ∀ k, cf p k = cf q k) (x : Rat) : dv p x = dv q x := by
  rw [dv_sm p x (max p.length q.length) (by omega), dv_sm q x (max p.length q.length) (by omega)]
  exact sm_congr fun k _ => by rw [h]
theorem dv_padd (p q : List Rat) (x : Rat) : dv (padd p q) x = dv p x + dv q x := by
  rw [dv_sm _ x _ (padd_len p q), dv_sm p x (max p.length q.length) (by omega), dv_sm q x (max p.length q.length) (by omega), ← sm_add]
  exact sm_congr fun k _ => by rw [cf_padd]; grind
theorem dv_pscal (p : List Rat) (c x : Rat) : dv (pscal p c) x = dv p x * c := by
  rw [dv_sm _ x _ (pscal_len p c), dv_sm p x p.length (by omega), show ∀ s : Rat, s * c = c * s from fun s => by grind, ← sm_mul]
  exact sm_congr fun k _ => by rw [cf_pscal]; grind
theorem dv_mulL : ∀ (p q : List Rat) (x : Rat), dv (mulL p q) x = dv p x * ev q x + ev p x * dv q x
  | [], q, x => by show (0 : Rat) = 0 * _ + 0 * _; grind
  | a :: p, q, x => by
    show dv (padd (pscal q a) (0 :: mulL p q)) x = _
    rw [dv_padd, dv_pscal, dv_cons, dv_cons, evq_cons, evq_mulL, dv_mulL p q x]
    grind
theorem dv_pmul (p q : List Rat) (x : Rat) : dv (pmul p q) x = dv p x * ev q x + ev p x * dv q x := by
  rw [← dv_mulL]
  exact dv_congr (cf_trim _) x
theorem evq_zero : ∀ p : List Rat, ev p 0 = cf p 0
  | [] => rfl
  | a :: p => by rw [evq_cons, cf_zero]; grind
end Mini
namespace Mini
open PySem L2
def fr (q : Rat) : D := .tup [.int q.num, .int q.den]
theorem fr_eq (q : Rat) : fr q = .tup [.int q.num, .int q.den] := (rfl)
def pl (p : List Rat) : D := .tup (p.map fr)
theorem pl_eq (p : List Rat) : pl p = .tup (p.map fr) := (rfl)
@[simp] theorem isOwn_fr (q : Rat) : isOwn (fr q) = false := (rfl)
@[simp] theorem isOwn_pl (q : List Rat) : isOwn (pl q) = false := (rfl)
theorem frI (i : Int) : D.tup [.int i, .int 1] = fr (i : Rat) := by
  rw [fr_eq, Rat.num_intCast, Rat.den_intCast]; rfl
theorem fr0 : D.tup [.int 0, .int 1] = fr 0 := frI 0
theorem fr1 : D.tup [.int 1, .int 1] = fr 1 := frI 1
@[simp] theorem idx_fr0 (δ : Dl) (q : Rat) : idxD δ (fr q) (.int 0) = some (.int q.num) := (rfl)
@[simp] theorem idx_fr1 (δ : Dl) (q : Rat) : idxD δ (fr q) (.int 1) = some (.int q.den) := (rfl)
@[simp] theorem fr_own_any (p : List Rat) : (p.map fr).any isOwn = false := by
  induction p with
  | nil => rfl
  | cons a p ih => rw [List.map_cons, List.any_cons, ih]; rfl
theorem plain_fr (k : Nat) (q : Rat) : plain (k + 1) (fr q) = true := by rw [fr_eq, plain_tup, plainL_cons, plainL_cons, plain_int, plain_int, plainL_nil]; rfl
theorem plainL_fr (k : Nat) (p : List Rat) : plainL (k + 1) (p.map fr) = true := plainL_all fun t ht => by
  obtain ⟨q, _, rfl⟩ := List.mem_map.mp ht
  exact plain_fr k q
theorem plain_pl (k : Nat) (p : List Rat) : plain (k + 2) (pl p) = true := by rw [pl_eq, plain_tup, plainL_fr]
theorem deqv_tup (ts us : List D) : deqv (.tup ts) (.tup us) = deqvL ts us := by rw [deqv]
theorem deqv_lst (ts us : List D) : deqv (.lst ts) (.lst us) = deqvL ts us := by rw [deqv]
theorem deqv_int (i j : Int) : deqv (.int i) (.int j) = (i == j) := by rw [deqv]
theorem deqvL_nil (us : List D) : deqvL [] us = us.isEmpty := by rw [deqvL]
theorem deqvL_cons (t u : D) (ts us : List D) : deqvL (t :: ts) (u :: us) = (deqv t u && deqvL ts us) := by rw [deqvL]
theorem deqvL_cn (t : D) (ts : List D) : deqvL (t :: ts) [] = false := by rw [deqvL]
theorem deqv_fr (a b : Rat) : deqv (fr a) (fr b) = decide (a = b) := by
  rw [fr_eq, fr_eq, deqv_tup, deqvL_cons, deqvL_cons, deqv_int, deqv_int, deqvL_nil]
  rw [Bool.eq_iff_iff]
  simp only [List.isEmpty_nil, Bool.and_true, Bool.and_eq_true, beq_iff_eq, decide_eq_true_eq]
  constructor
  · rintro ⟨h1, h2⟩
    exact Rat.ext h1 (by omega)
  · intro h; subst h; exact ⟨rfl, rfl⟩
theorem deqvL_fr : ∀ (p q : List Rat), deqvL (p.map fr) (q.map fr) = decide (p = q)
  | [], [] => by rw [List.map_nil, deqvL_nil]; rfl
  | [], b :: q => by rw [List.map_nil, deqvL_nil]; rfl
  | a :: p, [] => by rw [List.map_cons, List.map_nil, deqvL_cn]; rfl
  | a :: p, b :: q => by
    rw [List.map_cons, List.map_cons, deqvL_cons, deqv_fr, deqvL_fr p q, Bool.eq_iff_iff]
    simp
@[simp] theorem eqD_fr (a b : Rat) : eqD (fr a) (fr b) = some (decide (a = b)) := by rw [eqD_plain (plain_fr _ _) (plain_fr _ _), deqv_fr]
@[simp] theorem eqD_pl (p q : List Rat) : eqD (pl p) (pl q) = some (decide (p = q)) := by rw [eqD_plain (plain_pl _ _) (plain_pl _ _), pl_eq, pl_eq, deqv_tup, deqvL_fr]
@[simp] theorem eqD_lfr (p q : List Rat) : eqD (.lst (p.map fr)) (.lst (q.map fr)) = some (decide (p = q)) := by rw [eqD_plain (by rw [plain_lst]; exact plainL_fr 62 p) (by rw [plain_lst]; exact plainL_fr 62 q), deqv_lst, deqvL_fr]
theorem plNil : D.tup [] = pl [] := (rfl)
@[simp] theorem eqD_plnil (p : List Rat) : eqD (pl p) (.tup []) = some (decide (p = [])) := by rw [plNil, eqD_pl]
theorem atI_fr {p : List Rat} {k : Nat} (h : k < p.length) : atI (p.map fr) (k : Int) = some (fr (cf p k)) := atI_nat (by rw [List.getElem?_map, cf_getElem h]; rfl)
@[simp] theorem idx_pl (δ : Dl) (p : List Rat) (i : Int) : idxD δ (pl p) (.int i) = atI (p.map fr) i := (rfl)
@[simp] theorem blt_len_pl (δ : Dl) (p : List Rat) : bltD δ .len [pl p] = some (.int p.length) := by rw [pl_eq, blt_len_tup, List.length_map]
@[simp] theorem blt_list_pl (δ : Dl) (p : List Rat) : bltD δ .list [pl p] = some (.lst (p.map fr)) := (rfl)
@[simp] theorem blt_tup_pl (δ : Dl) (p : List Rat) : bltD δ .tuple [pl p] = some (pl p) := (rfl)
@[simp] theorem items_pl (δ : Dl) (p : List Rat) : itemsD δ .seq [pl p] = some (p.map fr) := (rfl)
@[simp] theorem items_plrev (δ : Dl) (p : List Rat) : itemsD δ .rev [pl p] = some (p.reverse.map fr) := by rw [List.map_reverse]; rfl
@[simp] theorem max2_nat (δ : Dl) (a b : Nat) : bltD δ .max2 [.int (a : Int), .int (b : Int)] = some (.int ((max a b : Nat) : Int)) := by
  show some (D.int (if (b : Int) > a then b else a)) = _
  congr 2
  split <;> omega
theorem lc_range {g : G} {c : Sig → Dl → R Bool} {e : Sig → Dl → R D} {σ : Sig} {δ : Dl} {n : Nat} (ti : Nat → D) (ty : Nat → D) (h : ∀ i, i < n → ∃ σ1, setG g (ti i) σ = some σ1 ∧ c σ1 δ = .ok true δ ∧ e σ1 δ = .ok (ty i) δ ∧ isOwn (ty i) = false) :
    lcGo g c e σ ((List.range n).map ti) δ = .ok ((List.range n).map ty) δ := by
  have := lcGo_map (g := g) (c := c) (e := e) (σ := σ) (δ := δ) ti ty (fun _ => true) (List.range n) fun a ha => by
    obtain ⟨σ1, h1, h2, h3, h4⟩ := h a (List.mem_range.mp ha)
    exact ⟨σ1, h1, h2, fun _ => ⟨h3, h4⟩⟩
  rw [this, List.filter_eq_self.mpr fun a _ => rfl]
theorem lc_list {α : Type} {g : G} {c : Sig → Dl → R Bool} {e : Sig → Dl → R D} {σ : Sig} {δ : Dl} (ti : α → D) (ty : α → D) (l : List α) (h : ∀ i, i ∈ l → ∃ σ1, setG g (ti i) σ = some σ1 ∧ c σ1 δ = .ok true δ ∧ e σ1 δ = .ok (ty i) δ ∧ isOwn (ty i) = false) :
    lcGo g c e σ (l.map ti) δ = .ok (l.map ty) δ := by
  have := lcGo_map (g := g) (c := c) (e := e) (σ := σ) (δ := δ) ti ty (fun _ => true) l fun a ha => by
    obtain ⟨σ1, h1, h2, h3, h4⟩ := h a ha
    exact ⟨σ1, h1, h2, fun _ => ⟨h3, h4⟩⟩
  rw [this, List.filter_eq_self.mpr fun a _ => rfl]
end Mini
namespace Mini
open PySem L2
theorem gcd_whl {c : Sig → Dl → R Bool} {b : Sig → Dl → O} {δ : Dl} (st : Nat → Nat → Sig) (h0 : ∀ a, c (st a 0) δ = .ok false δ) (h1 : ∀ a z, z ≠ 0 → c (st a z) δ = .ok true δ) (h2 : ∀ a z, z ≠ 0 → b (st a z) δ = .nx (st z (a % z)) δ) :
    ∀ (k n a z : Nat), z < 2 ^ k → 2 * k + 1 ≤ n → whlGo c b n (st a z) δ = .nx (st (Nat.gcd a z) 0) δ := by
  intro k
  induction k with
  | zero =>
    intro n a z hz hn
    have : z = 0 := by simpa using hz
    subst this
    obtain ⟨m, rfl⟩ : ∃ m, n = m + 1 := ⟨n - 1, by omega⟩
    rw [whl_stop (h0 a), Nat.gcd_zero_right]
  | succ k ih =>
    intro n a z hz hn
    obtain ⟨m, rfl⟩ : ∃ m, n = m + 2 := ⟨n - 2, by omega⟩
    by_cases z0 : z = 0
    · subst z0
      rw [whl_stop (h0 a), Nat.gcd_zero_right]
    · rw [whl_go (h1 a z z0) (h2 a z z0)]
      have hlt := Nat.mod_lt a (Nat.pos_of_ne_zero z0)
      by_cases r0 : a % z = 0
      · rw [r0, whl_stop (h0 z), Nat.gcd_comm, Nat.gcd_rec, r0, Nat.gcd_zero_left]
      · rw [whl_go (h1 z (a % z) r0) (h2 z (a % z) r0)]
        have hm : z % (a % z) < 2 ^ k := by
          have h3 := Nat.mod_lt z (Nat.pos_of_ne_zero r0)
          have h4 := Nat.div_add_mod z (a % z)
          have h5 : 1 ≤ z / (a % z) := (Nat.one_le_div_iff (Nat.pos_of_ne_zero r0)).mpr (Nat.le_of_lt hlt)
          have h6 : a % z ≤ (a % z) * (z / (a % z)) := Nat.le_mul_of_pos_right _ h5
          rw [Nat.pow_succ] at hz
          omega
        rw [ih m (a % z) (z % (a % z)) hm (by omega)]
        congr 2
        rw [Nat.gcd_comm a z, Nat.gcd_rec z a, Nat.gcd_rec (a % z) z, Nat.gcd_comm]
theorem fmod_nat' (a b : Nat) : (a : Int).fmod (b : Int) = ((a % b : Nat) : Int) := by
  rw [Int.fmod_eq_emod_of_nonneg _ (by omega)]
  rfl
theorem lt_big' {i : Int} (h : i.natAbs < 2 ^ 8990) : i.natAbs < big := h
theorem pow_le2 {a b : Nat} (h : a ≤ b) : 2 ^ a ≤ 2 ^ b := Nat.pow_le_pow_right (by omega) h
theorem mulOk_of {i j : Int} {n m : Nat} (h : i.natAbs < 2 ^ n) (g : j.natAbs < 2 ^ m) (hn : n ≤ 8990) (hm : m ≤ 8990) : mulOk i j = true :=
  mulOk_big (lt_big' (Nat.lt_of_lt_of_le h (pow_le2 hn))) (lt_big' (Nat.lt_of_lt_of_le g (pow_le2 hm)))
theorem gcd_lt {t b : Int} (hb : b ≠ 0) (h : b.natAbs < 2 ^ 8990) : Int.gcd t b ≠ 0 ∧ Int.gcd t b < 2 ^ 8990 := by
  have h1 : Int.gcd t b ∣ b.natAbs := Int.gcd_dvd_natAbs_right ..
  have h2 := Nat.le_of_dvd (by omega) h1
  have h3 : Int.gcd t b ≠ 0 := fun z => by
    rw [Int.gcd_eq_zero_iff] at z
    exact hb z.2
  exact ⟨h3, by omega⟩
end Mini
namespace Mini
open PySem L2
@[simp] theorem progF_X (X : List Str) (G : Nat → D) (n : Nat) (ds : List Df) (k : Nat) : (progF X G n ds k).X = X := rfl
theorem fuel_eq : fuel = 1000000000000 := rfl
theorem fuel_ge : 2 * 8990 + 1 ≤ fuel := by rw [fuel_eq]; omega
theorem inNW : Str.ofString "NoWay" ∈ errX := by decide +kernel
theorem C_shared (k : Nat) (hk : 1 ≤ k) (δ : Dl) (a b : Int) (hb : b.natAbs < 2 ^ 8990) : callE (PF k) f_shared [.int a, .int b] δ = .ok (.int (Int.gcd a b)) δ := by
  obtain ⟨k, rfl⟩ : ∃ m, k = m + 1 := ⟨k - 1, by omega⟩
  refine call_ok ?_ rfl rfl
  rw [F_at (d := d_shared) [some (.int a), some (.int b)] rfl rfl rfl]
  have h := gcd_whl (c := (evA' (PF k) c1_shared).t) (b := evS (PF k) fuel b1_shared) (δ := δ) (fun a z => [some (.int a), some (.int z)]) (fun a => by simp [c1_shared]) (fun a z hz => by simp [c1_shared]; omega) (fun a z hz => by simp [b1_shared, hz, fmod_nat']) 8990 fuel a.natAbs b.natAbs hb fuel_ge
  simp only [d_shared, m_shared]
  simp [h]
  rfl
theorem C_made (k : Nat) (hk : 2 ≤ k) (δ : Dl) (t b : Int) (h0 : b ≠ 0) (hb : b.natAbs < 2 ^ 8990) : callE (PF k) f_made [.int t, .int b] δ = .ok (fr (Rat.divInt t b)) δ := by
  obtain ⟨k, rfl⟩ : ∃ m, k = m + 1 := ⟨k - 1, by omega⟩
  refine call_ok ?_ rfl rfl
  rw [F_at (d := d_made) [some (.int t), some (.int b), none] rfl rfl rfl]
  have hs := C_shared k (by omega) δ t b hb
  obtain ⟨g1, g2⟩ := gcd_lt (t := t) h0 hb
  have e1 := made_num t b h0
  have e2 := made_den t b h0
  simp only [d_made, m_made]
  rw [fr_eq]
  by_cases hn : b < 0
  · rw [if_pos hn] at e1 e2
    have hd : divOk (-(Int.gcd t b : Nat)) = true := divOk_of (by omega) (lt_big' (by omega))
    simp [h0, hs, hn, bin_div, hd, e1, e2]
  · rw [if_neg hn] at e1 e2
    have hd : divOk (Int.gcd t b : Nat) = true := divOk_of (by omega) (lt_big' (by omega))
    simp [h0, hs, hn, bin_div, hd, e1, e2]
theorem C_of (k : Nat) (hk : 1 ≤ k) (δ : Dl) (i : Int) : callE (PF k) f_of [.int i] δ = .ok (fr (i : Rat)) δ := by
  obtain ⟨k, rfl⟩ : ∃ m, k = m + 1 := ⟨k - 1, by omega⟩
  refine call_ok ?_ rfl rfl
  rw [F_at (d := d_of) [some (.int i)] rfl rfl rfl]
  simp only [d_of, m_of]
  rw [← frI]
  simp
theorem den_lt {n : Nat} {q : Rat} (h : Fb n q) : ((q.den : Nat) : Int).natAbs < 2 ^ n := by simpa using h.2
theorem C_plus (k : Nat) (hk : 3 ≤ k) (δ : Dl) {a b : Rat} (ha : Fb 4400 a) (hb : Fb 4400 b) : callE (PF k) f_plus [fr a, fr b] δ = .ok (fr (a + b)) δ := by
  obtain ⟨k, rfl⟩ : ∃ m, k = m + 1 := ⟨k - 1, by omega⟩
  refine call_ok ?_ rfl rfl
  rw [F_at (d := d_plus) [some (fr a), some (fr b)] rfl rfl rfl]
  have h := C_made k (by omega) δ (a.num * b.den + b.num * a.den) (a.den * b.den) (Int.mul_ne_zero (den_ne a) (den_ne b)) (Nat.lt_of_lt_of_le (natAbs_lt_pow (den_lt ha) (den_lt hb)) (pow_le2 (by omega)))
  rw [q_add] at h
  simp only [d_plus, m_plus]
  simp [bin_mul, mulOk_of ha.1 (den_lt hb) (by omega) (by omega), mulOk_of hb.1 (den_lt ha) (by omega) (by omega), mulOk_of (den_lt ha) (den_lt hb) (by omega) (by omega), h]
theorem C_minus (k : Nat) (hk : 3 ≤ k) (δ : Dl) {a b : Rat} (ha : Fb 4400 a) (hb : Fb 4400 b) : callE (PF k) f_minus [fr a, fr b] δ = .ok (fr (a - b)) δ := by
  obtain ⟨k, rfl⟩ : ∃ m, k = m + 1 := ⟨k - 1, by omega⟩
  refine call_ok ?_ rfl rfl
  rw [F_at (d := d_minus) [some (fr a), some (fr b)] rfl rfl rfl]
  have h := C_made k (by omega) δ (a.num * b.den - b.num * a.den) (a.den * b.den) (Int.mul_ne_zero (den_ne a) (den_ne b)) (Nat.lt_of_lt_of_le (natAbs_lt_pow (den_lt ha) (den_lt hb)) (pow_le2 (by omega)))
  rw [q_sub] at h
  simp only [d_minus, m_minus]
  simp [bin_mul, mulOk_of ha.1 (den_lt hb) (by omega) (by omega), mulOk_of hb.1 (den_lt ha) (by omega) (by omega), mulOk_of (den_lt ha) (den_lt hb) (by omega) (by omega), h]
theorem C_times (k : Nat) (hk : 3 ≤ k) (δ : Dl) {a b : Rat} (ha : Fb 4400 a) (hb : Fb 4400 b) : callE (PF k) f_times [fr a, fr b] δ = .ok (fr (a * b)) δ := by
  obtain ⟨k, rfl⟩ : ∃ m, k = m + 1 := ⟨k - 1, by omega⟩
  refine call_ok ?_ rfl rfl
  rw [F_at (d := d_times) [some (fr a), some (fr b)] rfl rfl rfl]
  have h := C_made k (by omega) δ (a.num * b.num) (a.den * b.den) (Int.mul_ne_zero (den_ne a) (den_ne b)) (Nat.lt_of_lt_of_le (natAbs_lt_pow (den_lt ha) (den_lt hb)) (pow_le2 (by omega)))
  rw [q_mul] at h
  simp only [d_times, m_times]
  simp [bin_mul, mulOk_of ha.1 hb.1 (by omega) (by omega), mulOk_of (den_lt ha) (den_lt hb) (by omega) (by omega), h]
theorem C_over (k : Nat) (hk : 3 ≤ k) (δ : Dl) {a b : Rat} (ha : Fb 4400 a) (hb : Fb 4400 b) (h0 : b ≠ 0) : callE (PF k) f_over [fr a, fr b] δ = .ok (fr (a / b)) δ := by
  obtain ⟨k, rfl⟩ : ∃ m, k = m + 1 := ⟨k - 1, by omega⟩
  refine call_ok ?_ rfl rfl
  rw [F_at (d := d_over) [some (fr a), some (fr b)] rfl rfl rfl]
  have h := C_made k (by omega) δ (a.num * b.den) (a.den * b.num) (Int.mul_ne_zero (den_ne a) (fun z => h0 (num0.mp z))) (Nat.lt_of_lt_of_le (natAbs_lt_pow (den_lt ha) hb.1) (pow_le2 (by omega)))
  rw [q_over] at h
  simp only [d_over, m_over]
  simp [bin_mul, mulOk_of ha.1 (den_lt hb) (by omega) (by omega), mulOk_of (den_lt ha) hb.1 (by omega) (by omega), h]
theorem C_lmade (k : Nat) (hk : 1 ≤ k) (δ : Dl) (t b : Int) (h0 : b ≠ 0) (hb : b.natAbs < 2 ^ 8990) : callE (PF k) f_law_made [.int t, .int b] δ = .ok (fr (Rat.divInt t b)) δ := by
  obtain ⟨k, rfl⟩ : ∃ m, k = m + 1 := ⟨k - 1, by omega⟩
  refine call_ok ?_ rfl rfl
  rw [F_at (d := d_law_made) [some (.int t), some (.int b), none, none] rfl rfl rfl]
  have h := gcd_whl (c := (evA' (PF k) c1_law_made).t) (b := evS (PF k) fuel b1_law_made) (δ := δ) (fun a z => [some (.int t), some (.int b), some (.int a), some (.int z)]) (fun a => by simp [c1_law_made]) (fun a z hz => by simp [c1_law_made]; omega) (fun a z hz => by simp [b1_law_made, hz, fmod_nat']) 8990 fuel t.natAbs b.natAbs hb fuel_ge
  obtain ⟨g1, g2⟩ := gcd_lt (t := t) h0 hb
  have e1 := made_num t b h0
  have e2 := made_den t b h0
  have eg : Nat.gcd t.natAbs b.natAbs = Int.gcd t b := rfl
  rw [eg] at h
  simp only [d_law_made, m_law_made]
  rw [fr_eq]
  by_cases hn : b < 0
  · rw [if_pos hn] at e1 e2
    have hd : divOk (-(Int.gcd t b : Nat)) = true := divOk_of (by omega) (lt_big' (by omega))
    have hp : ¬ 0 < b := by omega
    simp [h, hp, bin_div, hd, e1, e2]
  · rw [if_neg hn] at e1 e2
    have hd : divOk (Int.gcd t b : Nat) = true := divOk_of (by omega) (lt_big' (by omega))
    have hp : 0 < b := by omega
    simp [h, hp, bin_div, hd, e1, e2]
theorem C_ladd (k : Nat) (hk : 2 ≤ k) (δ : Dl) {a b : Rat} (ha : Fb 4400 a) (hb : Fb 4400 b) : callE (PF k) f_law_add [fr a, fr b] δ = .ok (fr (a + b)) δ := by
  obtain ⟨k, rfl⟩ : ∃ m, k = m + 1 := ⟨k - 1, by omega⟩
  refine call_ok ?_ rfl rfl
  rw [F_at (d := d_law_add) [some (fr a), some (fr b)] rfl rfl rfl]
  have h := C_lmade k (by omega) δ (a.num * b.den + b.num * a.den) (a.den * b.den) (Int.mul_ne_zero (den_ne a) (den_ne b)) (Nat.lt_of_lt_of_le (natAbs_lt_pow (den_lt ha) (den_lt hb)) (pow_le2 (by omega)))
  rw [q_add] at h
  simp only [d_law_add, m_law_add]
  simp [bin_mul, mulOk_of ha.1 (den_lt hb) (by omega) (by omega), mulOk_of hb.1 (den_lt ha) (by omega) (by omega), mulOk_of (den_lt ha) (den_lt hb) (by omega) (by omega), h]
theorem C_lmul (k : Nat) (hk : 2 ≤ k) (δ : Dl) {a b : Rat} (ha : Fb 4400 a) (hb : Fb 4400 b) : callE (PF k) f_law_mul [fr a, fr b] δ = .ok (fr (a * b)) δ := by
  obtain ⟨k, rfl⟩ : ∃ m, k = m + 1 := ⟨k - 1, by omega⟩
  refine call_ok ?_ rfl rfl
  rw [F_at (d := d_law_mul) [some (fr a), some (fr b)] rfl rfl rfl]
  have h := C_lmade k (by omega) δ (a.num * b.num) (a.den * b.den) (Int.mul_ne_zero (den_ne a) (den_ne b)) (Nat.lt_of_lt_of_le (natAbs_lt_pow (den_lt ha) (den_lt hb)) (pow_le2 (by omega)))
  rw [q_mul] at h
  simp only [d_law_mul, m_law_mul]
  simp [bin_mul, mulOk_of ha.1 hb.1 (by omega) (by omega), mulOk_of (den_lt ha) (den_lt hb) (by omega) (by omega), h]
end Mini
namespace Mini
open PySem L2
def Tri (t : List D) : Prop := ∃ a b c : Int, t = [.int a, .int b, .int c]
structure Dcs (n : Nat) (δ : Dl) : Prop where
  len : δ.length = n
  tri : ∀ t, t ∈ δ → Tri t
theorem Dcs.at_ {n k : Nat} {δ : Dl} (h : Dcs n δ) (hk : k < n) : ∃ a b c : Int, δ[k]? = some [.int a, .int b, .int c] := by
  have hk' : k < δ.length := by rw [h.len]; exact hk
  obtain ⟨a, b, c, e⟩ := h.tri δ[k] (List.getElem_mem _)
  exact ⟨a, b, c, by rw [List.getElem?_eq_getElem hk', e]⟩
theorem Dcs.set {n k : Nat} {δ : Dl} {a b c : Int} (h : Dcs n δ) : Dcs n (δ.set k [.int a, .int b, .int c]) :=
  ⟨by rw [List.length_set]; exact h.len, fun t ht => by
    rcases List.mem_or_eq_of_mem_set ht with z | z
    · exact h.tri t z
    · exact ⟨a, b, c, z⟩⟩
theorem ix3_0 : ixN 3 0 = some 0 := rfl
theorem ix3_1 : ixN 3 1 = some 1 := rfl
theorem ix3_2 : ixN 3 2 = some 2 := rfl
theorem fmod_pos (a b : Int) (h : 0 < b) : a.fmod b = a % b := Int.fmod_eq_emod_of_nonneg _ (by omega)
theorem fdiv_pos (a b : Int) (h : 0 < b) : a.fdiv b = a / b := Int.fdiv_eq_ediv_of_nonneg _ (by omega)
theorem lt_big {i : Int} (h : i.natAbs < 2 ^ 62) : i.natAbs < big := Nat.lt_of_lt_of_le h (Nat.le_trans (Nat.pow_le_pow_right (by omega) (by omega)) big_ge)
theorem set_at {δ : Dl} {k : Nat} {x y : List D} (h : δ[k]? = some x) : (δ.set k y)[k]? = some y := List.getElem?_set_self (List.getElem?_eq_some_iff.mp h).1
theorem set_set_at {δ : Dl} {k : Nat} {x y : List D} : (δ.set k x).set k y = δ.set k y := List.set_set ..
theorem C_roll (k : Nat) (hk : 1 ≤ k) {δ : Dl} {n c : Nat} (hd : Dcs n δ) (hc : c < n) (m : Int) (h1 : 1 ≤ m) (h2 : m < 2 ^ 60) : ∃ (r : Int) (δ' : Dl), 0 ≤ r ∧ r < m ∧ Dcs n δ' ∧ callE (PF k) f_law_roll [.cell c, .int m] δ = .ok (.int r) δ' := by
  obtain ⟨k, rfl⟩ : ∃ m, k = m + 1 := ⟨k - 1, by omega⟩
  obtain ⟨a, b, d, e⟩ := hd.at_ hc
  have hz : ¬ m = 0 := by omega
  have fm : ∀ z : Int, z.fmod m = z % m := fun z => fmod_pos z m (by omega)
  have fd : ∀ z : Int, z.fdiv m = z / m := fun z => fdiv_pos z m (by omega)
  have hdv : divOk m = true := divOk_of hz (lt_big (by omega))
  have hd7 : divOk 7 = true := divOk_of (by omega) (lt_big (by decide))
  have m1 : ∀ z, mulOk z 48271 = true := fun z => mulOk_r (by decide)
  have m2 : ∀ z, mulOk z 69621 = true := fun z => mulOk_r (by decide)
  by_cases hb : d = 2 ∨ (d = 1 ∧ 0 < a)
  · refine ⟨a % m, δ.set c [.int (a / m), .int b, .int d], Int.emod_nonneg _ hz, Int.emod_lt_of_pos _ (by omega), hd.set, call_ok ?_ rfl rfl⟩
    rw [F_at (d := d_law_roll) [some (.cell c), some (.int m), none] rfl rfl rfl]
    simp only [d_law_roll, m_law_roll]
    rcases hb with hb | ⟨hb, ha⟩
    · subst hb
      simp [e, hz, fm, bin_div, hdv, fd, ix3_0]
    · subst hb
      simp [e, hz, fm, bin_div, hdv, fd, ix3_0, ha]
  · have hb2 : ¬ d = 2 := fun z => hb (.inl z)
    have hb3 : d = 1 → ¬ 0 < a := fun z y => hb (.inr ⟨z, y⟩)
    refine ⟨_, _, Int.emod_nonneg (((a * 48271 + b * 69621 + 11).fmod 2147483647).fdiv 7 + (a * 48271 + b * 69621 + 11).fmod 2147483647) hz, Int.emod_lt_of_pos _ (by omega), hd.set (k := c) (a := (a * 48271 + b * 69621 + 11).fmod 2147483647) (b := b + 1) (c := 0), call_ok ?_ rfl rfl⟩
    rw [F_at (d := d_law_roll) [some (.cell c), some (.int m), none] rfl rfl rfl]
    simp only [d_law_roll, m_law_roll]
    by_cases h1 : d = 1
    · have ha := hb3 h1
      subst h1
      simp [e, hz, fm, bin_div, bin_mul, hd7, m1, m2, ix3_0, ix3_1, ix3_2, ha, set_at e, set_set_at]
    · simp [e, hz, fm, bin_div, bin_mul, hd7, m1, m2, ix3_0, ix3_1, ix3_2, h1, hb2, set_at e, set_set_at]
theorem C_dice (k : Nat) (δ : Dl) (c : Int) : ∃ t, Tri t ∧ callE (PF (k + 1)) f_law_dice [.int c] δ = .ok (.cell δ.length) (δ ++ [t]) := by
  have pw : powOk 10 18 = true := by decide
  by_cases h : -10 < c ∧ c < 10
  · refine ⟨_, ⟨c.natAbs, 0, 2, rfl⟩, call_ok ?_ rfl rfl⟩
    rw [F_at (d := d_law_dice) [some (.int c)] rfl rfl rfl]
    simp only [d_law_dice, m_law_dice]
    simp [h]
  · refine ⟨_, ⟨c, 1 + c.fmod 1009, if 10 ^ 18 ≤ c then 1 else 0, rfl⟩, call_ok ?_ rfl rfl⟩
    rw [F_at (d := d_law_dice) [some (.int c)] rfl rfl rfl]
    simp only [d_law_dice, m_law_dice]
    by_cases h1 : -10 < c
    · have h2 : ¬ c < 10 := fun z => h ⟨h1, z⟩
      simp [h1, h2, bin_pow, pw]
    · simp [h1, bin_pow, pw]
theorem lc_dice (k : Nat) (σ : Sig) (hσ : σ.length = 4) : ∀ (cs : List Int) (δ : Dl), ∃ ts : List (List D), (∀ t, t ∈ ts → Tri t) ∧ ts.length = cs.length ∧
    lcGo (.name 3) (fun _ δ => .ok true δ) (evA' (PF (k + 1)) e1_law_rounds).v σ (cs.map .int) δ = .ok ((List.range cs.length).map fun i => .cell (δ.length + i)) (δ ++ ts)
  | [], δ => ⟨[], by simp, rfl, by simp⟩
  | c :: cs, δ => by
    obtain ⟨t, ht, e⟩ := C_dice k δ c
    obtain ⟨ts, h1, h2, h3⟩ := lc_dice k σ hσ cs (δ ++ [t])
    refine ⟨t :: ts, fun u hu => (List.mem_cons.mp hu).elim (fun z => by rw [z]; exact ht) (h1 u), by simp [h2], ?_⟩
    obtain ⟨a, b, x, y, rfl⟩ : ∃ a b x y, σ = [a, b, x, y] := by
      rcases σ with _ | ⟨a, _ | ⟨b, _ | ⟨x, _ | ⟨y, _ | ⟨_, _⟩⟩⟩⟩⟩ <;> simp at hσ
      exact ⟨_, _, _, _, rfl⟩
    rw [List.map_cons, lcGo_yes (σ1 := [a, b, x, some (.int c)]) (δ1 := δ) (δ2 := δ ++ [t]) (y := .cell δ.length) (by simp) rfl (by simp [e1_law_rounds, e]) rfl, h3]
    simp [List.range_succ_eq_map]
    intro i _
    omega
theorem cut_map (f : Int → D) (xs : List Int) (lo hi : Option Int) : ∃ ys : List Int, cutD (xs.map f) lo hi = ys.map f ∧ ys.length ≤ xs.length := by
  refine ⟨(xs.drop (HT.sIx xs.length 0 lo)).take (HT.sIx xs.length xs.length hi - HT.sIx xs.length 0 lo), ?_, ?_⟩
  · unfold cutD
    rw [List.length_map, List.map_take, List.map_drop]
  · rw [List.length_take, List.length_drop]
    omega
theorem plain_ints (k : Nat) (ns : List Int) : plainL k (ns.map .int) = true := plainL_all fun t ht => by
  obtain ⟨n, _, rfl⟩ := List.mem_map.mp ht
  exact plain_int _ _
@[simp] theorem eqD_ints_nil (ns : List Int) : eqD (.lst (ns.map .int)) (.lst []) = some ns.isEmpty := by
  rw [eqD_plain (by rw [plain_lst]; exact plain_ints _ _) (by simp)]
  cases ns <;> (unfold deqv; simp only []; unfold deqvL; rfl)
@[simp] theorem seqE_nil (f : List D → D) (δ : Dl) : seqE f [] δ = .ok (f []) δ := rfl
theorem C_rounds (k : Nat) (ns : List Int) (h : ns.length ≤ 63) (m : Int) : ∃ (n : Nat) (δ' : Dl), Dcs n δ' ∧ callE (PF (k + 2)) f_law_rounds [.frz (ns.map .int), .int m] [] = .ok (.lst ((List.range n).map .cell)) δ' := by
  obtain ⟨ys, e, hl⟩ := cut_map .int ns none (some m)
  have fin : ∀ (σ : Sig) (cs : List Int), σ.length = 4 → ∃ δ' : Dl, Dcs cs.length δ' ∧ lcGo (.name 3) (fun _ δ => .ok true δ) (evA' (PF (k + 1)) e1_law_rounds).v σ (cs.map .int) [] = .ok ((List.range cs.length).map .cell) δ' := by
    intro σ cs hσ
    obtain ⟨ts, h1, h2, h3⟩ := lc_dice k σ hσ cs []
    refine ⟨[] ++ ts, ⟨by rw [List.nil_append]; exact h2, fun t ht => h1 t (by simpa using ht)⟩, ?_⟩
    rw [h3]
    congr 1
    refine List.map_congr_left fun i _ => ?_
    simp
  have sl : slcD [] (.frz (ns.map .int)) none (some m) = some (.lst (ys.map .int)) := by
    show some (D.lst (cutD (ns.map .int) none (some m))) = _
    rw [e]
  cases hy : ys with
  | nil =>
    obtain ⟨δ', d1, d2⟩ := fin [some (.frz (ns.map .int)), some (.int m), some (.lst [.int 0]), none] [0] rfl
    refine ⟨_, δ', d1, call_ok ?_ (by simp) rfl⟩
    rw [F_at (d := d_law_rounds) [some (.frz (ns.map .int)), some (.int m), none, none] rfl rfl rfl]
    simp only [d_law_rounds, m_law_rounds]
    rw [hy] at sl
    have d2' : lcGo (.name 3) (fun _ δ => .ok true δ) (evA' (PF (k + 1)) e1_law_rounds).v [some (.frz (ns.map .int)), some (.int m), some (.lst [.int 0]), none] [.int 0] [] = _ := d2
    have z : eqD (.lst []) (.lst []) = some true := eqD_ints_nil []
    simp [sl, z, d2']
  | cons y yr =>
    obtain ⟨δ', d1, d2⟩ := fin [some (.frz (ns.map .int)), some (.int m), some (.lst ((y :: yr).map .int)), none] (y :: yr) rfl
    refine ⟨_, δ', d1, call_ok ?_ (by simp) rfl⟩
    rw [F_at (d := d_law_rounds) [some (.frz (ns.map .int)), some (.int m), none, none] rfl rfl rfl]
    simp only [d_law_rounds, m_law_rounds]
    rw [hy] at sl hl
    have z := eqD_ints_nil (y :: yr)
    have hlen : ¬ 1000000 < ((y :: yr).map D.int).length := by rw [List.length_map]; omega
    generalize hL : (y :: yr).map D.int = L at *
    simp [sl, z, d2, hlen]
end Mini
namespace Mini
def Gd (D B : Nat) (p : List Rat) : Prop := ∀ q, q ∈ p → ∃ z : Int, q = (z : Rat) / (D : Rat) ∧ z.natAbs ≤ B
theorem Gd.fb {D B n : Nat} {p : List Rat} (h : Gd D B p) (h0 : 0 < D) (hD : D < 2 ^ n) (hB : B < 2 ^ n) {q : Rat} (hq : q ∈ p) : Fb n q := by
  obtain ⟨z, e, hz⟩ := h q hq
  have e2 : q = Rat.divInt z D := by rw [Rat.divInt_eq_div]; exact e
  rw [e2]
  exact Fb.divInt (by omega) (by omega) (by simpa using hD)
theorem Gd.hb {D B n : Nat} {p : List Rat} (h : Gd D B p) (h0 : 0 < D) (hD : D < 2 ^ n) (hB : B < 2 ^ n) : Hb n p :=
  ⟨D, h0, hD, fun q hq => by
    obtain ⟨z, e, hz⟩ := h q hq
    exact ⟨z, e, by omega⟩⟩
theorem Gd.mono {D B B' : Nat} {p : List Rat} (h : Gd D B p) (l : B ≤ B') : Gd D B' p := fun q hq => by
  obtain ⟨z, e, hz⟩ := h q hq
  exact ⟨z, e, by omega⟩
theorem Gd.sub {D B : Nat} {p r : List Rat} (h : Gd D B p) (hs : ∀ q, q ∈ r → q ∈ p) : Gd D B r := fun q hq => h q (hs q hq)
theorem gd_zero (D n : Nat) (h0 : 0 < D) : Gd D 0 (List.replicate n 0) := fun q hq => by
  rw [(List.mem_replicate.mp hq).2]
  refine ⟨0, ?_, Nat.le_refl _⟩
  have := nat_neR h0
  grind
theorem Hb.cf {n : Nat} {p : List Rat} (h : Hb n p) (k : Nat) : Fb n (cf p k) := h.zero.fb (cf_mem0 p k)
theorem Hb.trim {n : Nat} {p : List Rat} (h : Hb n p) : Hb n (trim p) := h.sub fun q hq => trim_mem hq
theorem hb_nil {n : Nat} (h : 1 ≤ n) : Hb n [] := ⟨1, by omega, Nat.lt_of_lt_of_le (show 1 < 2 ^ 1 by decide) (Nat.pow_le_pow_right (by omega) h), fun q hq => by simp at hq⟩
theorem fb_int {n : Nat} {i : Int} (h : i.natAbs < 2 ^ n) (hn : 1 ≤ n) : Fb n (i : Rat) := by
  refine ⟨by rw [Rat.num_intCast]; exact h, ?_⟩
  rw [Rat.den_intCast]
  exact Nat.lt_of_lt_of_le (show 1 < 2 ^ 1 by decide) (Nat.pow_le_pow_right (by omega) hn)
theorem fb_zero {n : Nat} (h : 1 ≤ n) : Fb n 0 := fb_int (i := 0) (Nat.two_pow_pos n) h
theorem fb_one {n : Nat} (h : 1 ≤ n) : Fb n 1 := fb_int (i := 1) (Nat.lt_of_lt_of_le (show 1 < 2 ^ 1 by decide) (Nat.pow_le_pow_right (by omega) h)) h
theorem Fb.neg {n : Nat} {q : Rat} (h : Fb n q) : Fb n (-q) := ⟨by rw [Rat.neg_num, Int.natAbs_neg]; exact h.1, by rw [Rat.neg_den]; exact h.2⟩
theorem Fb.mul {n m : Nat} {a b : Rat} (ha : Fb n a) (hb : Fb m b) : Fb (n + m) (a * b) := by
  rw [← q_mul]
  exact Fb.divInt (Int.mul_ne_zero (den_ne a) (den_ne b)) (natAbs_lt_pow ha.1 hb.1) (natAbs_lt_pow (by simpa using ha.2) (by simpa using hb.2))
theorem Fb.add {n m : Nat} {a b : Rat} (ha : Fb n a) (hb : Fb m b) : Fb (n + m + 1) (a + b) := by
  rw [← q_add]
  have h1 := natAbs_lt_pow ha.1 (u := b.den) (m := m) (by simpa using hb.2)
  have h2 := natAbs_lt_pow hb.1 (u := a.den) (m := n) (by simpa using ha.2)
  have h3 := natAbs_lt_pow (t := a.den) (u := b.den) (n := n) (m := m) (by simpa using ha.2) (by simpa using hb.2)
  rw [Nat.add_comm m n] at h2
  exact Fb.divInt (Int.mul_ne_zero (den_ne a) (den_ne b)) (add_lt_pow h1 h2) (Nat.lt_of_lt_of_le h3 (Nat.pow_le_pow_right (by omega) (by omega)))
theorem Fb.sub {n m : Nat} {a b : Rat} (ha : Fb n a) (hb : Fb m b) : Fb (n + m + 1) (a - b) := by
  rw [Rat.sub_eq_add_neg]
  exact ha.add hb.neg
theorem Fb.inv {n : Nat} {a : Rat} (ha : Fb n a) : Fb n a⁻¹ := by
  by_cases h0 : a = 0
  · subst h0
    rw [Rat.inv_zero]
    exact ha
  · rw [Rat.inv_def]
    exact Fb.divInt (fun z => h0 (num0.mp z)) (by simpa using ha.2) ha.1
theorem Fb.div {n m : Nat} {a b : Rat} (ha : Fb n a) (hb : Fb m b) : Fb (n + m) (a / b) := by
  rw [Rat.div_def]
  exact ha.mul hb.inv
theorem Hb.padd {n m : Nat} {p q : List Rat} (hp : Hb n p) (hq : Hb m q) : Hb (n + m + 1) (padd p q) := by
  obtain ⟨d, h1, h2, _, h3, h4⟩ := hp.zero.comb hq.zero
  refine Hb.trim ⟨d, h1, Nat.lt_of_lt_of_le h2 (Nat.pow_le_pow_right (by omega) (by omega)), fun r hr => ?_⟩
  obtain ⟨k, _, rfl⟩ := List.mem_map.mp hr
  obtain ⟨z, ez, hz⟩ := h3 _ (cf_mem0 p k)
  obtain ⟨y, ey, hy⟩ := h4 _ (cf_mem0 q k)
  refine ⟨z + y, ?_, add_lt_pow hz hy⟩
  rw [ez, ey, Rat.intCast_add]
  have := nat_neR h1
  grind
theorem Hb.psub {n m : Nat} {p q : List Rat} (hp : Hb n p) (hq : Hb m q) : Hb (n + m + 1) (psub p q) := by
  obtain ⟨d, h1, h2, _, h3, h4⟩ := hp.zero.comb hq.zero
  refine Hb.trim ⟨d, h1, Nat.lt_of_lt_of_le h2 (Nat.pow_le_pow_right (by omega) (by omega)), fun r hr => ?_⟩
  obtain ⟨k, _, rfl⟩ := List.mem_map.mp hr
  obtain ⟨z, ez, hz⟩ := h3 _ (cf_mem0 p k)
  obtain ⟨y, ey, hy⟩ := h4 _ (cf_mem0 q k)
  refine ⟨z + -y, ?_, add_lt_pow hz (by rw [Int.natAbs_neg]; exact hy)⟩
  rw [ez, ey, Rat.intCast_add, Rat.intCast_neg]
  have := nat_neR h1
  grind
theorem Hb.pscal {n m : Nat} {p : List Rat} {c : Rat} (hp : Hb n p) (hc : Fb m c) : Hb (n + m) (pscal p c) := by
  obtain ⟨d, h1, h2, h3, _⟩ := hp.comb hc.hb
  refine Hb.trim ⟨d, h1, h2, fun r hr => ?_⟩
  obtain ⟨a, ha, rfl⟩ := List.mem_map.mp hr
  exact h3 a c ha (List.mem_singleton.mpr rfl)
def addAt (F : List Rat) (i : Nat) (v : Rat) : List Rat := F.set i (cf F i + v)
def inn (a : Rat) : Nat → List Rat → List Rat → List Rat
  | _, [], F => F
  | i, b :: q, F => inn a (i + 1) q (addAt F i (a * b))
def out (q : List Rat) : Nat → List Rat → List Rat → List Rat
  | _, [], F => F
  | i, a :: p, F => out q (i + 1) p (inn a i q F)
theorem addAt_len (F : List Rat) (i : Nat) (v : Rat) : (addAt F i v).length = F.length := by unfold addAt; rw [List.length_set]
theorem inn_len (a : Rat) : ∀ (q : List Rat) (i : Nat) (F : List Rat), (inn a i q F).length = F.length
  | [], _, _ => rfl
  | b :: q, i, F => by
    show (inn a (i + 1) q (addAt F i (a * b))).length = _
    rw [inn_len a q, addAt_len]
theorem out_len (q : List Rat) : ∀ (p : List Rat) (i : Nat) (F : List Rat), (out q i p F).length = F.length
  | [], _, _ => rfl
  | a :: p, i, F => by
    show (out q (i + 1) p (inn a i q F)).length = _
    rw [out_len q p, inn_len]
theorem ev_addAt : ∀ (F : List Rat) (i : Nat) (v x : Rat), i < F.length → ev (addAt F i v) x = ev F x + v * x ^ i
  | [], i, v, x, h => by simp at h
  | c :: F, 0, v, x, _ => by
    show ev ((c + v) :: F) x = _
    rw [evq_cons, evq_cons, Rat.pow_zero]; grind
  | c :: F, i + 1, v, x, h => by
    have ih := ev_addAt F i v x (by simpa using h)
    show ev (c :: addAt F i v) x = _
    rw [evq_cons, evq_cons, ih, Rat.pow_succ]; grind
theorem ev_inn (a x : Rat) : ∀ (q : List Rat) (i : Nat) (F : List Rat), i + q.length ≤ F.length → ev (inn a i q F) x = ev F x + a * x ^ i * ev q x
  | [], i, F, _ => by
    show ev F x = ev F x + a * x ^ i * 0
    grind
  | b :: q, i, F, h => by
    show ev (inn a (i + 1) q (addAt F i (a * b))) x = _
    rw [ev_inn a x q (i + 1) _ (by rw [addAt_len]; simp at h; omega), ev_addAt _ _ _ _ (by simp at h; omega), evq_cons, Rat.pow_succ]
    grind
theorem ev_out (q : List Rat) (x : Rat) : ∀ (p : List Rat) (i : Nat) (F : List Rat), i + p.length + q.length ≤ F.length → ev (out q i p F) x = ev F x + x ^ i * ev p x * ev q x
  | [], i, F, _ => by
    show ev F x = ev F x + x ^ i * 0 * ev q x
    grind
  | a :: p, i, F, h => by
    show ev (out q (i + 1) p (inn a i q F)) x = _
    rw [ev_out q x p (i + 1) _ (by rw [inn_len]; simp at h; omega), ev_inn _ _ _ _ _ (by simp at h; omega), evq_cons, Rat.pow_succ]
    grind
theorem ev_zeros (x : Rat) : ∀ n, ev (List.replicate n 0) x = 0
  | 0 => rfl
  | n + 1 => by rw [List.replicate_succ, evq_cons, ev_zeros x n]; grind
theorem out_pmul (p q : List Rat) : trim (out q 0 p (List.replicate (p.length + q.length) 0)) = pmul p q := by
  refine tr_ext (trim_tr _) (pmul_tr _ _) (cf_of_ev fun x => ?_)
  rw [evq_trim, ev_out q x p 0 _ (by simp), ev_zeros, evq_pmul, Rat.pow_zero]
  grind
theorem Gd.addAt {D B C i : Nat} {F : List Rat} {v : Rat} (h : Gd D B F) (h0 : 0 < D) (hv : ∃ z : Int, v = (z : Rat) / (D : Rat) ∧ z.natAbs ≤ C) : Gd D (B + C) (addAt F i v) := fun q hq => by
  rcases List.mem_or_eq_of_mem_set hq with hq | hq
  · exact (h.mono (Nat.le_add_right B C)) q hq
  · obtain ⟨z, ez, hz⟩ := hv
    have hf : ∃ y : Int, Mini.cf F i = (y : Rat) / (D : Rat) ∧ y.natAbs ≤ B := by
      by_cases hi : i < F.length
      · exact h _ (cf_mem hi)
      · rw [cf_ge (by omega)]
        refine ⟨0, ?_, Nat.zero_le _⟩
        have := nat_neR h0
        grind
    obtain ⟨y, ey, hy⟩ := hf
    refine ⟨y + z, ?_, by omega⟩
    rw [hq, ey, ez, Rat.intCast_add]
    have := nat_neR h0
    grind
theorem Gd.inn {D C : Nat} {a : Rat} (h0 : 0 < D) : ∀ (q : List Rat) (i : Nat) (F : List Rat) (B : Nat), (∀ b, b ∈ q → ∃ z : Int, a * b = (z : Rat) / (D : Rat) ∧ z.natAbs ≤ C) → Gd D B F → Gd D (B + q.length * C) (inn a i q F)
  | [], i, F, B, _, h => by rw [List.length_nil, Nat.zero_mul, Nat.add_zero]; exact h
  | b :: q, i, F, B, hq, h => by
    have := Gd.inn h0 q (i + 1) _ _ (fun c hc => hq c (List.mem_cons_of_mem _ hc)) (h.addAt (i := i) h0 (hq b List.mem_cons_self))
    rw [List.length_cons, Nat.add_mul, Nat.one_mul, Nat.add_comm (q.length * C) C, ← Nat.add_assoc]
    exact this
theorem Gd.out {D C : Nat} {q : List Rat} (h0 : 0 < D) : ∀ (p : List Rat) (i : Nat) (F : List Rat) (B : Nat), (∀ a b, a ∈ p → b ∈ q → ∃ z : Int, a * b = (z : Rat) / (D : Rat) ∧ z.natAbs ≤ C) → Gd D B F → Gd D (B + p.length * (q.length * C)) (out q i p F)
  | [], i, F, B, _, h => by rw [List.length_nil, Nat.zero_mul, Nat.add_zero]; exact h
  | a :: p, i, F, B, hq, h => by
    have := Gd.out h0 p (i + 1) _ _ (fun c b hc hb => hq c b (List.mem_cons_of_mem _ hc) hb) (Gd.inn h0 q i F B (fun b hb => hq a b List.mem_cons_self hb) h)
    rw [List.length_cons, Nat.add_mul, Nat.one_mul, Nat.add_comm (p.length * (q.length * C)), ← Nat.add_assoc]
    exact this
theorem mul_gd {n m c : Nat} {p q : List Rat} (hp : Hb n p) (hq : Hb m q) (hc : p.length * q.length ≤ 2 ^ c) :
    ∃ D : Nat, ∃ C : Nat, 0 < D ∧ D < 2 ^ (n + m) ∧ (∀ a b, a ∈ p → b ∈ q → ∃ z : Int, a * b = (z : Rat) / (D : Rat) ∧ z.natAbs ≤ C) ∧ p.length * (q.length * C) < 2 ^ (n + m + c) := by
  obtain ⟨d, h1, h2, h3, _⟩ := hp.comb hq
  refine ⟨d, 2 ^ (n + m) - 1, h1, h2, fun a b ha hb => ?_, ?_⟩
  · obtain ⟨z, ez, hz⟩ := h3 a b ha hb
    exact ⟨z, ez, by omega⟩
  · have hpos := Nat.two_pow_pos (n + m)
    rw [← Nat.mul_assoc, Nat.pow_add 2 (n + m) c, Nat.mul_comm (2 ^ (n + m))]
    calc p.length * q.length * (2 ^ (n + m) - 1) ≤ 2 ^ c * (2 ^ (n + m) - 1) := Nat.mul_le_mul_right _ hc
      _ < 2 ^ c * 2 ^ (n + m) := Nat.mul_lt_mul_of_pos_left (by omega) (Nat.two_pow_pos c)
theorem Hb.pmul {n m c : Nat} {p q : List Rat} (hp : Hb n p) (hq : Hb m q) (hc : p.length * q.length ≤ 2 ^ c) : Hb (n + m + c) (pmul p q) := by
  obtain ⟨D, C, h1, h2, h3, h4⟩ := mul_gd hp hq hc
  rw [← out_pmul]
  have := Gd.out h1 p 0 (List.replicate (p.length + q.length) 0) 0 h3 (gd_zero D _ h1)
  rw [Nat.zero_add] at this
  exact (this.hb h1 (Nat.lt_of_lt_of_le h2 (Nat.pow_le_pow_right (by omega) (by omega))) h4).trim
theorem horner {d b : Nat} {a : Int} {n m : Nat} (hd : 0 < d) (hb : 0 < b) (ha : a.natAbs < 2 ^ m) (hb2 : b < 2 ^ m) : ∀ t : List Rat, (∀ q, q ∈ t → ∃ z : Int, q = (z : Rat) / (d : Rat) ∧ z.natAbs < 2 ^ n) →
    ∃ H : Int, ev t ((a : Rat) / (b : Rat)) = (H : Rat) / ((d * b ^ t.length : Nat) : Rat) ∧ H.natAbs < 2 ^ (n + t.length * (m + 1))
  | [], _ => ⟨0, by
      have := nat_neR hd
      have e : ((d * b ^ ([] : List Rat).length : Nat) : Rat) = (d : Rat) := by simp
      rw [e]
      show (0 : Rat) = _
      grind, Nat.two_pow_pos _⟩
  | c :: t, h => by
    obtain ⟨H, e, hH⟩ := horner hd hb ha hb2 t fun q hq => h q (List.mem_cons_of_mem _ hq)
    obtain ⟨z, ez, hz⟩ := h c List.mem_cons_self
    refine ⟨z * ((b ^ (t.length + 1) : Nat) : Int) + a * H, ?_, ?_⟩
    · rw [evq_cons, e, ez, List.length_cons, Rat.intCast_add, Rat.intCast_mul, Rat.intCast_mul, Rat.natCast_mul, Rat.natCast_mul, Rat.intCast_natCast]
      have h1 := nat_neR hd
      have h2 := nat_neR hb
      have h3 : ((b ^ t.length : Nat) : Rat) ≠ 0 := nat_neR (Nat.pow_pos hb)
      have h4 : ((b ^ (t.length + 1) : Nat) : Rat) = ((b ^ t.length : Nat) : Rat) * (b : Rat) := by rw [Nat.pow_succ, Rat.natCast_mul]
      rw [h4]
      generalize ((b ^ t.length : Nat) : Rat) = w at *
      grind
    · have hbp : b ^ (t.length + 1) < 2 ^ (m * (t.length + 1)) := by
        rw [Nat.pow_mul]
        exact Nat.pow_lt_pow_left hb2 (by omega)
      have h1 : (z * ((b ^ (t.length + 1) : Nat) : Int)).natAbs < 2 ^ (n + m * (t.length + 1)) := natAbs_lt_pow hz (by rw [Int.natAbs_natCast]; exact hbp)
      have h2 : (a * H).natAbs < 2 ^ (m + (n + t.length * (m + 1))) := natAbs_lt_pow ha hH
      have h1' : (z * ((b ^ (t.length + 1) : Nat) : Int)).natAbs < 2 ^ (m + (n + t.length * (m + 1))) := Nat.lt_of_lt_of_le h1 (Nat.pow_le_pow_right (by omega) (by
        rw [Nat.mul_add, Nat.mul_add, Nat.mul_comm m t.length]; omega))
      have := add_lt_pow h1' h2
      rw [List.length_cons]
      refine Nat.lt_of_lt_of_le this (Nat.pow_le_pow_right (by omega) ?_)
      rw [Nat.add_mul, Nat.one_mul]; omega
theorem Hb.ev {n m : Nat} {p : List Rat} {x : Rat} (hp : Hb n p) (hx : Fb m x) : Fb (n + p.length * (m + 1)) (ev p x) := by
  obtain ⟨d, h1, h2, h3⟩ := hp
  obtain ⟨H, e, hH⟩ := horner (n := n) h1 x.den_pos hx.1 hx.2 p h3
  have hxe : x = (x.num : Rat) / (x.den : Rat) := q_div x
  rw [← hxe] at e
  have hb : x.den ^ p.length < 2 ^ (m * p.length) ∨ p.length = 0 := by
    by_cases h0 : p.length = 0
    · exact .inr h0
    · left
      rw [Nat.pow_mul]
      exact Nat.pow_lt_pow_left hx.2 h0
  have hD : d * x.den ^ p.length < 2 ^ (n + p.length * (m + 1)) := by
    rcases hb with hb | hb
    · refine Nat.lt_of_lt_of_le (nat_lt_pow h2 hb) (Nat.pow_le_pow_right (by omega) ?_)
      rw [Nat.mul_add, Nat.mul_comm m]; omega
    · rw [hb]; simpa using h2
  have e2 : Mini.ev p x = Rat.divInt H ((d * x.den ^ p.length : Nat) : Int) := by
    rw [Rat.divInt_eq_div, Rat.intCast_natCast]; exact e
  rw [e2]
  have hpos : 0 < d * x.den ^ p.length := Nat.mul_pos h1 (Nat.pow_pos x.den_pos)
  exact Fb.divInt (by omega) hH (by rw [Int.natAbs_natCast]; exact hD)
end Mini
namespace Mini
theorem Hb.pslope {n : Nat} {p : List Rat} (h : Hb n p) (hl : p.length ≤ 16) : Hb (n + 4) (pslope p) := by
  have h0 := h.zero
  obtain ⟨d, h1, h2, h3⟩ := h0
  refine Hb.trim ⟨d, h1, Nat.lt_of_lt_of_le h2 (Nat.pow_le_pow_right (by omega) (by omega)), fun q hq => ?_⟩
  obtain ⟨k, hk, rfl⟩ := List.mem_map.mp hq
  have hk := List.mem_range.mp hk
  obtain ⟨z, ez, hz⟩ := h3 _ (cf_mem0 p (k + 1))
  refine ⟨z * ((k + 1 : Nat) : Int), ?_, natAbs_lt_pow hz (by rw [Int.natAbs_natCast]; omega)⟩
  rw [ez, Rat.intCast_mul, Rat.intCast_natCast]
  have := nat_neR h1
  grind
theorem pslope_len (p : List Rat) : (pslope p).length ≤ p.length - 1 := by
  have := trim_len ((List.range (p.length - 1)).map fun k => ((k + 1 : Nat) : Rat) * cf p (k + 1))
  unfold pslope
  simpa using this
end Mini
namespace Mini
open PySem L2
theorem list_last {α : Type} (l : List α) : l = [] ∨ ∃ q a, l = q ++ [a] := by
  rcases List.eq_nil_or_concat l with h | ⟨q, a, h⟩
  · exact .inl h
  · exact .inr ⟨q, a, by rw [h, List.concat_eq_append]⟩
theorem eqD_own_nil (p : List Rat) : eqD (.own (p.map fr)) (.lst []) = some (decide (p = [])) := by
  rw [eqD_plain (by rw [plain_own]; exact plainL_fr 62 p) (by simp)]
  rw [deqv]
  cases p with
  | nil => rw [List.map_nil, deqvL_nil]; rfl
  | cons a p => rw [List.map_cons, deqvL_cn]; rfl
theorem atI_last {α : Type} (l : List α) (a : α) : atI (l ++ [a]) (-1) = some a := by
  unfold atI ixN
  have h : (l ++ [a]).length = l.length + 1 := by simp
  rw [if_neg (by omega), if_pos (by omega), h]
  show (l ++ [a])[(-1 + ((l.length + 1 : Nat) : Int)).toNat]? = some a
  rw [show (-1 + ((l.length + 1 : Nat) : Int)).toNat = l.length by omega]
  simp
theorem cut_loop (k : Nat) (δ : Dl) : ∀ (n : Nat) (p : List Rat), p.length < n → whlGo (evA' (PF k) c1_cut).t (evS (PF k) fuel b1_cut) n [some (.own (p.map fr))] δ = .nx [some (.own ((trim p).map fr))] δ
  | 0, p, h => by omega
  | n + 1, p, h => by
    rcases list_last p with rfl | ⟨q, a, rfl⟩
    · rw [whl_stop (δ1 := δ) (by
        have e := eqD_own_nil []
        rw [List.map_nil] at e
        simp [c1_cut, e])]
      rfl
    · have he := eqD_own_nil (q ++ [a])
      have hne : ¬ (q ++ [a] = []) := by simp
      rw [decide_eq_false hne] at he
      have hl : atI ((q ++ [a]).map fr) (-1) = some (fr a) := by rw [List.map_append]; exact atI_last _ _
      by_cases ha : a = 0
      · have hn : a.num = 0 := num0.mpr ha
        have hd : ((q ++ [a]).map fr).dropLast = q.map fr := by rw [List.map_append]; exact List.dropLast_concat
        have hi : ((q ++ [a]).map fr).isEmpty = false := by simp
        generalize hL : (q ++ [a]).map fr = L at *
        rw [whl_go (δ1 := δ) (δ2 := δ) (σ2 := [some (.own (q.map fr))]) (by simp [c1_cut, he, hl, hn]) (by simp [b1_cut, hi, hd]), cut_loop k δ n q (by simp at h; omega), ha, trim_snoc0]
      · have hn : ¬ a.num = 0 := fun z => ha (num0.mp z)
        rw [tr_trim (tr_snoc ha)]
        generalize hL : (q ++ [a]).map fr = L at *
        rw [whl_stop (δ1 := δ) (by simp [c1_cut, he, hl, hn])]
theorem C_cutL (k : Nat) (hk : 1 ≤ k) (δ : Dl) (p : List Rat) (hp : p.length ≤ 1000000) : callE (PF k) f_cut [.lst (p.map fr)] δ = .ok (pl (trim p)) δ := by
  obtain ⟨k, rfl⟩ : ∃ m, k = m + 1 := ⟨k - 1, by omega⟩
  refine call_ok ?_ (by simp) rfl
  rw [F_at (d := d_cut) [some (.lst (p.map fr))] rfl rfl rfl]
  have h := cut_loop k δ fuel p (by rw [fuel_eq]; omega)
  simp only [d_cut, m_cut]
  rw [pl_eq]
  generalize p.map fr = L at *
  simp [h]
theorem C_degree (k : Nat) (hk : 1 ≤ k) (δ : Dl) (p : List Rat) : callE (PF k) f_degree [pl p] δ = .ok (.int ((p.length : Int) - 1)) δ := by
  obtain ⟨k, rfl⟩ : ∃ m, k = m + 1 := ⟨k - 1, by omega⟩
  refine call_ok ?_ rfl rfl
  rw [F_at (d := d_degree) [some (pl p)] rfl rfl rfl]
  simp only [d_degree, m_degree]
  simp
theorem rng_len' (n : Nat) (f : Nat → D) : ((List.range n).map f).length = n := by simp
theorem C_scaled (k : Nat) (hk : 4 ≤ k) (δ : Dl) {p : List Rat} {c : Rat} (lp : p.length ≤ 1000) (hp : ∀ a, a ∈ p → Fb 4400 a) (hc : Fb 4400 c) : callE (PF k) f_scaled [pl p, fr c] δ = .ok (pl (pscal p c)) δ := by
  obtain ⟨k, rfl⟩ : ∃ m, k = m + 1 := ⟨k - 1, by omega⟩
  refine call_ok ?_ rfl rfl
  rw [F_at (d := d_scaled) [some (pl p), some (fr c), none] rfl rfl rfl]
  have L := lc_list (g := .name 2) (c := fun _ δ => .ok true δ) (e := (evA' (PF k) e1_scaled).v) (σ := [some (pl p), some (fr c), none]) (δ := δ) fr (fun a => fr (a * c)) p fun a ha =>
    ⟨[some (pl p), some (fr c), some (fr a)], by simp, rfl, by simp [e1_scaled, C_times k (by omega) δ (hp a ha) hc], rfl⟩
  have e : p.map (fun a => fr (a * c)) = (p.map fun a => a * c).map fr := by rw [List.map_map]; rfl
  rw [e] at L
  have C := C_cutL k (by omega) δ (p.map fun a => a * c) (by simp; omega)
  have hl : ¬ 1000000 < p.length := by omega
  simp only [d_scaled, m_scaled]
  unfold pscal
  generalize p.map (fun a => a * c) = M at *
  simp [hl, L, C]

theorem repOk_of {n : Nat} {j : Int} (h1 : -(2 ^ 63) ≤ j) (h2 : j < 2 ^ 63) (h3 : n * j.toNat ≤ line) : repOk n j = true := by
  unfold repOk
  rw [decide_eq_true h1, decide_eq_true h2, decide_eq_true h3]; rfl
theorem rep_fr (c : Rat) : ∀ n, (List.replicate n [fr c]).flatten = (List.replicate n c).map fr
  | 0 => rfl
  | n + 1 => by rw [List.replicate_succ, List.replicate_succ, List.map_cons, List.flatten_cons, rep_fr c n]; rfl
theorem rep_zero (n : Nat) {j : Int} (hj : j = (n : Nat)) (h : n ≤ 2000) : binD .Mult (.lst [fr 0]) (.int j) = some (.lst ((List.replicate n (0 : Rat)).map fr)) := by
  have ok : repOk [fr 0].length j = true := repOk_of (by omega) (by omega) (by
    have : j.toNat = n := by omega
    rw [this]
    show 1 * n ≤ line
    unfold line
    omega)
  rw [bin_rep, ok, ← rep_fr, hj]
  rfl
theorem prod_in (k : Nat) (hk : 3 ≤ k) {δ : Dl} {D C : Nat} (h0 : 0 < D) (hD : D < 2 ^ 4400) {a : Rat} (ha : Fb 4400 a) (i : Nat) (s0 s1 : Option Mini.D) : ∀ (q : List Rat) (j : Nat) (F : List Rat) (B : Nat) (s5 s6 : Option Mini.D),
    (∀ b, b ∈ q → Fb 4400 b ∧ ∃ z : Int, a * b = (z : Rat) / (D : Rat) ∧ z.natAbs ≤ C) → Gd D B F → i + j + q.length ≤ F.length → B + q.length * C < 2 ^ 4400 → C < 2 ^ 4400 →
    ∃ t5 t6, forGo (.tup [5, 6]) (evS (PF k) fuel b1_product) (enumFrom j (q.map fr)) [s0, s1, some (.own (F.map fr)), some (.int (i : Nat)), some (fr a), s5, s6] δ =
      .nx [s0, s1, some (.own ((inn a (i + j) q F).map fr)), some (.int (i : Nat)), some (fr a), t5, t6] δ
  | [], j, F, B, s5, s6, _, _, _, _, _ => ⟨s5, s6, rfl⟩
  | b :: q, j, F, B, s5, s6, hq, hF, hl, hB, hC => by
    obtain ⟨hb, z, ez, hz⟩ := hq b List.mem_cons_self
    rw [List.length_cons, Nat.add_mul, Nat.one_mul] at hB
    rw [List.length_cons] at hl
    have hi : i + j < F.length := by omega
    have f1 : Fb 4400 (cf F (i + j)) := hF.fb h0 hD (by omega) (cf_mem hi)
    have f2 : Fb 4400 (a * b) := by
      have : Gd D C [a * b] := fun y hy => by rw [List.mem_singleton.mp hy]; exact ⟨z, ez, hz⟩
      exact this.fb h0 hD hC (List.mem_singleton.mpr rfl)
    have T := C_times k hk δ ha hb
    have P := C_plus k hk δ f1 f2
    have ix : atI (F.map fr) ((i : Int) + (j : Int)) = some (fr (cf F (i + j))) := by
      rw [show (i : Int) + (j : Int) = ((i + j : Nat) : Int) by omega]
      exact atI_fr hi
    have ixn : ixN (F.map fr).length ((i : Int) + (j : Int)) = some (i + j) := by
      rw [List.length_map]
      unfold ixN
      rw [if_pos (by omega), if_pos (by omega)]
      congr 1
    have st : (F.map fr).set (i + j) (fr (cf F (i + j) + a * b)) = (addAt F (i + j) (a * b)).map fr := by
      unfold addAt
      rw [List.map_set]
    obtain ⟨t5, t6, e⟩ := prod_in k hk (δ := δ) h0 hD ha i s0 s1 q (j + 1) (addAt F (i + j) (a * b)) (B + C) (some (.int (j : Nat))) (some (fr b)) (fun c hc => hq c (List.mem_cons_of_mem _ hc)) (hF.addAt h0 ⟨z, ez, hz⟩) (by rw [addAt_len]; omega) (by omega) hC
    refine ⟨t5, t6, ?_⟩
    show forGo (.tup [5, 6]) (evS (PF k) fuel b1_product) (.tup [.int (j : Nat), fr b] :: enumFrom (j + 1) (q.map fr)) _ δ = _
    rw [forGo_nx (σ1 := [s0, s1, some (.own (F.map fr)), some (.int (i : Nat)), some (fr a), some (.int (j : Nat)), some (fr b)]) (σ2 := [s0, s1, some (.own ((addAt F (i + j) (a * b)).map fr)), some (.int (i : Nat)), some (fr a), some (.int (j : Nat)), some (fr b)]) (δ2 := δ) (by simp) (by
      rw [← st]
      generalize F.map fr = L at *
      simp [b1_product, ix, T, P, ixn]), e]
    rfl
theorem prod_out (k : Nat) (hk : 3 ≤ k) {δ : Dl} {D C : Nat} (h0 : 0 < D) (hD : D < 2 ^ 4400) {q : List Rat} (hqb : ∀ b, b ∈ q → Fb 4400 b) (hC : C < 2 ^ 4400) (s0 : Option Mini.D) : ∀ (p : List Rat) (i : Nat) (F : List Rat) (B : Nat) (s3 s4 s5 s6 : Option Mini.D),
    (∀ a, a ∈ p → Fb 4400 a) → (∀ a b, a ∈ p → b ∈ q → ∃ z : Int, a * b = (z : Rat) / (D : Rat) ∧ z.natAbs ≤ C) → Gd D B F → i + p.length + q.length ≤ F.length → B + p.length * (q.length * C) < 2 ^ 4400 →
    ∃ t3 t4 t5 t6, forGo (.tup [3, 4]) (evS (PF k) fuel b2_product) (enumFrom i (p.map fr)) [s0, some (pl q), some (.own (F.map fr)), s3, s4, s5, s6] δ =
      .nx [s0, some (pl q), some (.own ((out q i p F).map fr)), t3, t4, t5, t6] δ
  | [], i, F, B, s3, s4, s5, s6, _, _, _, _, _ => ⟨s3, s4, s5, s6, rfl⟩
  | a :: p, i, F, B, s3, s4, s5, s6, hp, hpq, hF, hl, hB => by
    rw [List.length_cons, Nat.add_mul, Nat.one_mul] at hB
    rw [List.length_cons] at hl
    have hin : ∀ b, b ∈ q → Fb 4400 b ∧ ∃ z : Int, a * b = (z : Rat) / (D : Rat) ∧ z.natAbs ≤ C := fun b hb => ⟨hqb b hb, hpq a b List.mem_cons_self hb⟩
    obtain ⟨t5, t6, e1⟩ := prod_in k hk (δ := δ) h0 hD (hp a List.mem_cons_self) i s0 (some (pl q)) q 0 F B s5 s6 hin hF (by omega) (by omega) hC
    obtain ⟨u3, u4, u5, u6, e2⟩ := prod_out k hk (δ := δ) h0 hD hqb hC s0 p (i + 1) (inn a i q F) (B + q.length * C) (some (.int (i : Nat))) (some (fr a)) t5 t6 (fun c hc => hp c (List.mem_cons_of_mem _ hc)) (fun c b hc hb => hpq c b (List.mem_cons_of_mem _ hc) hb)
      (Gd.inn h0 q i F B (fun b hb => (hin b hb).2) hF) (by rw [inn_len]; omega) (by omega)
    refine ⟨u3, u4, u5, u6, ?_⟩
    have it : itemsD δ .enum [pl q] = some (enumFrom 0 (q.map fr)) := rfl
    show forGo (.tup [3, 4]) (evS (PF k) fuel b2_product) (.tup [.int (i : Nat), fr a] :: enumFrom (i + 1) (p.map fr)) _ δ = _
    rw [forGo_nx (σ1 := [s0, some (pl q), some (.own (F.map fr)), some (.int (i : Nat)), some (fr a), s5, s6]) (σ2 := [s0, some (pl q), some (.own ((inn a i q F).map fr)), some (.int (i : Nat)), some (fr a), t5, t6]) (δ2 := δ) (by simp) (by
      rw [Nat.add_zero] at e1
      generalize F.map fr = L at *
      simp [b2_product, it, e1]), e2]
    rfl
theorem C_product (k : Nat) (hk : 4 ≤ k) (δ : Dl) {n m c : Nat} {p q : List Rat} (hp : Hb n p) (hq : Hb m q) (hc : p.length * q.length ≤ 2 ^ c) (hs : n + m + c ≤ 4400) (lp : p.length ≤ 1000) (lq : q.length ≤ 1000) :
    callE (PF k) f_product [pl p, pl q] δ = .ok (pl (pmul p q)) δ := by
  obtain ⟨k, rfl⟩ : ∃ m, k = m + 1 := ⟨k - 1, by omega⟩
  refine call_ok ?_ rfl rfl
  rw [F_at (d := d_product) [some (pl p), some (pl q), none, none, none, none, none] rfl rfl rfl]
  obtain ⟨Dd, C, h1, h2, h3, h4⟩ := mul_gd hp hq hc
  have l1 : Dd < 2 ^ 4400 := Nat.lt_of_lt_of_le h2 (pow_le2 (by omega))
  have l2 : p.length * (q.length * C) < 2 ^ 4400 := Nat.lt_of_lt_of_le h4 (pow_le2 (by omega))
  have fp : ∀ a, a ∈ p → Fb 4400 a := fun a ha => (hp.fb ha).mono (by omega)
  have fq : ∀ a, a ∈ q → Fb 4400 a := fun a ha => (hq.fb ha).mono (by omega)
  have main : ∃ t3 t4 t5 t6, forGo (.tup [3, 4]) (evS (PF k) fuel b2_product) (enumFrom 0 (p.map fr)) [some (pl p), some (pl q), some (.own ((List.replicate (p.length + q.length) 0).map fr)), none, none, none, none] δ =
      .nx [some (pl p), some (pl q), some (.own ((out q 0 p (List.replicate (p.length + q.length) 0)).map fr)), t3, t4, t5, t6] δ := by
    by_cases e : p = [] ∨ q = []
    · rcases e with e | e
      · subst e; exact ⟨none, none, none, none, rfl⟩
      · subst e
        exact prod_out k (by omega) (C := 0) h1 l1 fq (Nat.two_pow_pos _) (some (pl p)) p 0 _ 0 none none none none fp (fun a b _ hb => by simp at hb) (gd_zero Dd _ h1) (by simp) (by simp; exact Nat.two_pow_pos _)
    · have np : 0 < p.length := List.length_pos_iff.mpr fun z => e (.inl z)
      have nq : 0 < q.length := List.length_pos_iff.mpr fun z => e (.inr z)
      have hC : C ≤ p.length * (q.length * C) := by
        rw [← Nat.mul_assoc]
        exact Nat.le_mul_of_pos_left _ (Nat.mul_pos np nq)
      exact prod_out k (by omega) h1 l1 fq (by omega) (some (pl p)) p 0 _ 0 none none none none fp h3 (gd_zero Dd _ h1) (by simp) (by omega)
  obtain ⟨t3, t4, t5, t6, e⟩ := main
  have CC := C_cutL k (by omega) δ (out q 0 p (List.replicate (p.length + q.length) 0)) (by rw [out_len, List.length_replicate]; omega)
  rw [out_pmul] at CC
  have it : itemsD δ .enum [pl p] = some (enumFrom 0 (p.map fr)) := rfl
  have rp : binD .Mult (.lst [fr 0]) (.int ((p.length : Int) + (q.length : Int))) = some (.lst ((List.replicate (p.length + q.length) (0 : Rat)).map fr)) := rep_zero (p.length + q.length) (by omega) (by omega)
  generalize (List.replicate (p.length + q.length) (0 : Rat)).map fr = Z at *
  generalize (out q 0 p (List.replicate (p.length + q.length) 0)) = M at *
  simp only [d_product, m_product]
  simp [fr0, rp, it, e, CC]
end Mini
namespace Mini
open PySem L2
theorem C_lfrac (k : Nat) (hk : 2 ≤ k) {δ : Dl} {n c : Nat} (hd : Dcs n δ) (hc : c < n) : ∃ (q : Rat) (δ' : Dl), q.num.natAbs ≤ 5 ∧ q.den ≤ 3 ∧ Dcs n δ' ∧ callE (PF k) f_law_frac [.cell c] δ = .ok (fr q) δ' := by
  obtain ⟨k, rfl⟩ : ∃ m, k = m + 1 := ⟨k - 1, by omega⟩
  obtain ⟨r, δ1, r0, r1, d1, e1⟩ := C_roll k (by omega) hd hc 11 (by omega) (by omega)
  obtain ⟨s, δ2, s0, s1, d2, e2⟩ := C_roll k (by omega) d1 hc 3 (by omega) (by omega)
  have M := C_lmade k (by omega) δ2 (r - 5) (1 + s) (by omega) (Nat.lt_of_lt_of_le (show (1 + s).natAbs < 2 ^ 2 by omega) (pow_le2 (by omega)))
  refine ⟨Rat.divInt (r - 5) (1 + s), δ2, Nat.le_trans divInt_top (by omega), Nat.le_trans (divInt_bot (by omega)) (by omega), d2, call_ok ?_ rfl rfl⟩
  rw [F_at (d := d_law_frac) [some (.cell c)] rfl rfl rfl]
  simp only [d_law_frac, m_law_frac]
  simp [e1, e2, M]
theorem C_lsum_loop (k : Nat) (hk : 2 ≤ k) {δ : Dl} (s0 : Option D) : ∀ (l : List Rat) (a : Rat) (s2 : Option D), (∀ c, c ∈ l → Fb 4400 c) → (∀ i, i ≤ l.length → Fb 4400 ((l.take i).foldl (· + ·) a)) →
    ∃ t2, forGo (.name 2) (evS (PF k) fuel b1_law_sum) (l.map fr) [s0, some (fr a), s2] δ = .nx [s0, some (fr (l.foldl (· + ·) a)), t2] δ
  | [], a, s2, _, _ => ⟨s2, rfl⟩
  | c :: l, a, s2, hl, h => by
    obtain ⟨t2, e⟩ := C_lsum_loop k hk (δ := δ) s0 l (a + c) (some (fr c)) (fun d hd => hl d (List.mem_cons_of_mem _ hd)) fun i hi => h (i + 1) (by simp; omega)
    refine ⟨t2, ?_⟩
    have A := C_ladd k hk δ (h 0 (Nat.zero_le _)) (hl c List.mem_cons_self)
    rw [List.take_zero, List.foldl_nil] at A
    rw [List.map_cons, forGo_nx (σ1 := [s0, some (fr a), some (fr c)]) (σ2 := [s0, some (fr (a + c)), some (fr c)]) (δ2 := δ) (by simp) (by simp [b1_law_sum, A]), e]
    rfl
theorem C_lsum (k : Nat) (hk : 3 ≤ k) (δ : Dl) (l : List Rat) (h1 : ∀ c, c ∈ l → Fb 4400 c) (h2 : ∀ i, i ≤ l.length → Fb 4400 ((l.take i).foldl (· + ·) 0)) : callE (PF k) f_law_sum [.lst (l.map fr)] δ = .ok (fr (l.foldl (· + ·) 0)) δ := by
  obtain ⟨k, rfl⟩ : ∃ m, k = m + 1 := ⟨k - 1, by omega⟩
  refine call_ok ?_ rfl rfl
  rw [F_at (d := d_law_sum) [some (.lst (l.map fr)), none, none] rfl rfl rfl]
  obtain ⟨t2, e⟩ := C_lsum_loop k (by omega) (δ := δ) (some (.lst (l.map fr))) l 0 none h1 h2
  simp only [d_law_sum, m_law_sum]
  generalize l.map fr = L at *
  simp [fr0, e]
theorem C_lraise_loop (k : Nat) (hk : 2 ≤ k) {δ : Dl} {x : Rat} (hx : Fb 4400 x) (s1 : Option D) : ∀ (l : List D) (a : Nat) (s3 : Option D), (∀ z, z ∈ l → isOwn z = false) → (∀ i, i ≤ a + l.length → Fb 4400 (x ^ i)) →
    ∃ t3, forGo (.name 3) (evS (PF k) fuel b1_law_raise) l [some (fr x), s1, some (fr (x ^ a)), s3] δ = .nx [some (fr x), s1, some (fr (x ^ (a + l.length))), t3] δ
  | [], a, s3, _, _ => ⟨s3, rfl⟩
  | c :: l, a, s3, hl, h => by
    obtain ⟨t3, e⟩ := C_lraise_loop k hk (δ := δ) hx s1 l (a + 1) (some c) (fun d hd => hl d (List.mem_cons_of_mem _ hd)) fun i hi => h i (by simp; omega)
    refine ⟨t3, ?_⟩
    have A := C_lmul k hk δ (h a (by omega)) hx
    rw [← Rat.pow_succ] at A
    rw [forGo_nx (σ1 := [some (fr x), s1, some (fr (x ^ a)), some c]) (σ2 := [some (fr x), s1, some (fr (x ^ (a + 1))), some c]) (δ2 := δ) (by simp [hl c List.mem_cons_self]) (by simp [b1_law_raise, A]), e, List.length_cons, Nat.add_assoc, Nat.add_comm 1]
theorem C_lraise (k : Nat) (hk : 3 ≤ k) (δ : Dl) {x : Rat} (m : Nat) (hm : m ≤ 1000) (h : ∀ i, i ≤ m → Fb 4400 (x ^ i)) (hx : Fb 4400 x) : callE (PF k) f_law_raise [fr x, .int (m : Nat)] δ = .ok (fr (x ^ m)) δ := by
  obtain ⟨k, rfl⟩ : ∃ m, k = m + 1 := ⟨k - 1, by omega⟩
  refine call_ok ?_ rfl rfl
  rw [F_at (d := d_law_raise) [some (fr x), some (.int (m : Nat)), none, none] rfl rfl rfl]
  have R := items_rng (δ := δ) (n := (m : Int)) (rOk_le (by omega) (by omega))
  rw [show ((m : Int)).toNat = m from rfl] at R
  obtain ⟨t3, e⟩ := C_lraise_loop k (by omega) (δ := δ) hx (some (.int (m : Nat))) ((List.range m).map fun i => D.int (i : Nat)) 0 none (fun z hz => by
    obtain ⟨i, _, rfl⟩ := List.mem_map.mp hz
    rfl) (fun i hi => h i (by simpa using hi))
  rw [rng_len', Nat.zero_add, Rat.pow_zero] at e
  simp only [d_law_raise, m_law_raise]
  generalize (List.range m).map (fun i => D.int (i : Nat)) = L at *
  simp [R, fr1, e]
theorem foldl_sm (f : Nat → Rat) : ∀ (n : Nat), ((List.range n).map f).foldl (· + ·) 0 = sm f n
  | 0 => rfl
  | n + 1 => by rw [List.range_succ, List.map_append, List.foldl_append, foldl_sm f n]; rfl
theorem take_sm (f : Nat → Rat) {n i : Nat} (h : i ≤ n) : (((List.range n).map f).take i).foldl (· + ·) 0 = sm f i := by
  rw [← List.map_take, List.take_range, Nat.min_eq_left h, foldl_sm]
theorem ev_take (p : List Rat) (x : Rat) {i : Nat} (h : i ≤ p.length) : sm (fun k => cf p k * x ^ k) i = ev (p.take i) x := by
  rw [evq_sm (p.take i) x i (by rw [List.length_take]; omega)]
  apply sm_congr
  intro k hk
  congr 1
  unfold cf
  rw [List.getD_eq_getElem?_getD, List.getD_eq_getElem?_getD, List.getElem?_take_of_lt hk]
theorem Fb.pow {m : Nat} {x : Rat} (hx : Fb m x) : ∀ i : Nat, Fb (i * m + 1) (x ^ i)
  | 0 => by rw [Rat.pow_zero]; exact fb_one (by omega)
  | i + 1 => by
    rw [Rat.pow_succ]
    exact ((Fb.pow hx i).mul hx).mono (by rw [Nat.add_mul]; omega)
end Mini
namespace Mini
theorem ev_one (a x : Rat) : ev [a] x = a := by rw [evq_cons, evq_nil]; grind
theorem cf_inn (a : Rat) : ∀ (q : List Rat) (i : Nat) (F : List Rat) (j : Nat), i + q.length ≤ F.length → cf (inn a i q F) j = if i ≤ j ∧ j < i + q.length then cf F j + a * cf q (j - i) else cf F j
  | [], i, F, j, _ => by
    rw [if_neg (by rw [List.length_nil]; omega)]; rfl
  | b :: q, i, F, j, h => by
    rw [List.length_cons] at h
    show cf (inn a (i + 1) q (addAt F i (a * b))) j = _
    rw [cf_inn a q (i + 1) _ j (by rw [addAt_len]; omega), List.length_cons]
    have e : cf (addAt F i (a * b)) j = if j = i then cf F i + a * b else cf F j := by
      unfold addAt
      exact cf_set (by omega) _ _
    rw [e]
    by_cases h1 : j = i
    · subst h1
      rw [if_neg (by omega), if_pos rfl, if_pos (by omega), Nat.sub_self]; rfl
    · rw [if_neg h1]
      by_cases h2 : i + 1 ≤ j ∧ j < i + 1 + q.length
      · rw [if_pos h2, if_pos (by omega), show j - i = (j - (i + 1)) + 1 by omega, cf_succ]
      · rw [if_neg h2, if_neg (by omega)]
def lc (q : List Rat) : Rat := cf q (q.length - 1)
def dgo (q : List Rat) : Nat → List Rat → List Rat → List Rat × List Rat
  | 0, F, R => (F, R)
  | k + 1, F, R => dgo q k (F.set k (cf R (k + q.length - 1) / lc q)) (inn (-(cf R (k + q.length - 1) / lc q)) k q R)
def pdivmod (p q : List Rat) : List Rat × List Rat := dgo q (p.length + 1 - q.length) (List.replicate (p.length + 1 - q.length) 0) p
def pquo (p q : List Rat) : List Rat := trim (pdivmod p q).1
def prem (p q : List Rat) : List Rat := trim (pdivmod p q).2
theorem ev_setz {F : List Rat} {k : Nat} (h : k < F.length) (hz : cf F k = 0) (v x : Rat) : ev (F.set k v) x = ev F x + v * x ^ k := by
  have := ev_addAt F k v x h
  unfold addAt at this
  rw [hz, show (0 : Rat) + v = v by grind] at this
  exact this
theorem dgo_ev {q : List Rat} : ∀ (k : Nat) (F R : List Rat) (x : Rat), k ≤ F.length → k + q.length ≤ R.length + 1 → 0 < q.length → (∀ j, j < k → cf F j = 0) →
    ev (dgo q k F R).1 x * ev q x + ev (dgo q k F R).2 x = ev F x * ev q x + ev R x
  | 0, F, R, x, _, _, _, _ => rfl
  | k + 1, F, R, x, h1, h2, h3, hz => by
    show ev (dgo q k _ _).1 x * ev q x + ev (dgo q k _ _).2 x = _
    rw [dgo_ev k _ _ x (by rw [List.length_set]; omega) (by rw [inn_len]; omega) h3 (fun j hj => by
      rw [cf_set (by omega), if_neg (by omega)]
      exact hz j (by omega)), ev_setz (by omega) (hz k (by omega)), ev_inn _ _ _ _ _ (by omega)]
    grind
theorem dgo_len {q : List Rat} : ∀ (k : Nat) (F R : List Rat), (dgo q k F R).1.length = F.length ∧ (dgo q k F R).2.length = R.length
  | 0, F, R => ⟨rfl, rfl⟩
  | k + 1, F, R => by
    have := dgo_len (q := q) k (F.set k (cf R (k + q.length - 1) / lc q)) (inn (-(cf R (k + q.length - 1) / lc q)) k q R)
    rw [List.length_set, inn_len] at this
    exact this
theorem dgo_top {q : List Rat} (hq : lc q ≠ 0) (h3 : 0 < q.length) : ∀ (k : Nat) (F R : List Rat), k + q.length ≤ R.length + 1 → (∀ j, k + q.length - 1 ≤ j → cf R j = 0) → ∀ j, q.length - 1 ≤ j → cf (dgo q k F R).2 j = 0
  | 0, F, R, _, h, j, hj => h j (by omega)
  | k + 1, F, R, h2, h, j, hj => by
    refine dgo_top hq h3 k _ _ (by rw [inn_len]; omega) (fun i hi => ?_) j hj
    rw [cf_inn _ _ _ _ _ (by omega)]
    by_cases e : i = k + q.length - 1
    · rw [if_pos (by omega), e, show k + q.length - 1 - k = q.length - 1 by omega]
      show _ + -(_ / lc q) * lc q = 0
      grind
    · rw [if_neg (by omega)]
      exact h i (by omega)
theorem div_ev {p q : List Rat} (hq : q ≠ []) (x : Rat) : ev (pquo p q) x * ev q x + ev (prem p q) x = ev p x := by
  have lq := List.length_pos_iff.mpr hq
  unfold pquo prem
  rw [evq_trim, evq_trim]
  unfold pdivmod
  by_cases hl : q.length ≤ p.length + 1
  · rw [dgo_ev _ _ _ x (by simp) (by omega) lq (fun j hj => by
      unfold cf
      rw [List.getD_eq_getElem?_getD, List.getElem?_replicate]
      split <;> rfl), ev_zeros]
    grind
  · rw [show p.length + 1 - q.length = 0 by omega]
    show (0 : Rat) * _ + ev p x = ev p x
    grind
theorem rem_len {p q : List Rat} (hq : q ≠ []) (hl : lc q ≠ 0) : (prem p q).length ≤ q.length - 1 := by
  have lq := List.length_pos_iff.mpr hq
  have key : ∀ j, q.length - 1 ≤ j → cf (prem p q) j = 0 := fun j hj => by
    unfold prem
    rw [cf_trim]
    unfold pdivmod
    by_cases h : q.length ≤ p.length + 1
    · exact dgo_top hl lq _ _ _ (by omega) (fun i hi => cf_ge (by omega)) j hj
    · rw [show p.length + 1 - q.length = 0 by omega]
      show cf p j = 0
      exact cf_ge (by omega)
  rcases trim_tr (pdivmod p q).2 with h | h
  · have : prem p q = [] := h
    rw [this]; simp
  · apply Classical.byContradiction
    intro hn
    exact h (key _ (by
      have : (prem p q).length = (trim (pdivmod p q).2).length := rfl
      omega))
theorem pquo_tr (p q : List Rat) : Tr (pquo p q) := trim_tr _
theorem prem_tr (p q : List Rat) : Tr (prem p q) := trim_tr _
theorem tr_lc {q : List Rat} (h : Tr q) (hq : q ≠ []) : lc q ≠ 0 := h.resolve_left hq
theorem pquo_len (p q : List Rat) : (pquo p q).length ≤ p.length + 1 - q.length := by
  have := trim_len (pdivmod p q).1
  unfold pquo
  have h2 := (dgo_len (q := q) (p.length + 1 - q.length) (List.replicate (p.length + 1 - q.length) 0) p).1
  rw [List.length_replicate] at h2
  unfold pdivmod at this
  unfold pdivmod
  omega
theorem div_uniq {p q a r : List Rat} (hq : Tr q) (nq : q ≠ []) (ha : Tr a) (hr : Tr r) (lr : r.length ≤ q.length - 1) (e : ∀ x, ev a x * ev q x + ev r x = ev p x) : a = pquo p q ∧ r = prem p q := by
  have lq := List.length_pos_iff.mpr nq
  have h2 := rem_len (p := p) nq (tr_lc hq nq)
  have key : pmul (psub a (pquo p q)) q = psub (prem p q) r := evq_ext (pmul_tr _ _) (psub_tr _ _) fun x => by
    have e2 := div_ev (p := p) nq x
    have e3 := e x
    rw [evq_pmul, evq_psub, evq_psub]
    grind
  have hz : psub a (pquo p q) = [] := by
    apply Classical.byContradiction
    intro hn
    have l1 := pmul_length (psub_tr a (pquo p q)) hq hn nq
    have l2 := psub_len (prem p q) r
    rw [key] at l1
    have := List.length_pos_iff.mpr hn
    omega
  have h1 : a = pquo p q := tr_ext ha (pquo_tr _ _) fun k => by
    have := cf_psub a (pquo p q) k
    rw [hz, cf_nil] at this
    grind
  refine ⟨h1, tr_ext hr (prem_tr _ _) fun k => ?_⟩
  have : psub (prem p q) r = [] := by rw [← key, hz]; rfl
  have e2 := cf_psub (prem p q) r k
  rw [this, cf_nil] at e2
  grind
theorem div_eq' {a b c : Rat} (hc : c ≠ 0) (h : a * c = b) : a = b / c := by grind
theorem alg0 {D W E : Rat} (hD : D ≠ 0) (hW : W ≠ 0) (hE : E ≠ 0) (t : Rat) : (t / D) / (W / E) = t * E / (D * W) := by
  have h : W / E ≠ 0 := by grind
  have h2 : D * W ≠ 0 := by grind
  refine (div_eq' h2 ?_)
  have e1 : (t / D) / (W / E) * (W / E) = t / D := by grind
  generalize (t / D) / (W / E) = y at *
  grind
theorem alg1 {D W E S : Rat} (hD : D ≠ 0) (hW : W ≠ 0) (hE : E ≠ 0) (hS : S ≠ 0) (hss : S * S = 1) (z t v : Rat) : z / D + -(t / D / (W / E)) * (v / E) = S * (z * W + -(t * v)) / (D * (S * W)) := by
  rw [alg0 hD hW hE]
  have h1 : D * (S * W) ≠ 0 := by grind
  refine div_eq' h1 ?_
  have h2 : D * W ≠ 0 := by grind
  have e1 : t * E / (D * W) * (v / E) = t * v / (D * W) := by grind
  have e2 : -(t * E / (D * W)) * (v / E) = -(t * v / (D * W)) := by grind
  rw [e2]
  have e3 : z / D * (D * (S * W)) = z * S * W := by grind
  have e4 : t * v / (D * W) * (D * W) = t * v := by grind
  generalize t * v / (D * W) = y at *
  grind
theorem Hb.div1 {n m : Nat} {R q : List Rat} {t : Nat} (hR : Hb n R) (hq : Hb m q) (h0 : lc q ≠ 0) (nq : q ≠ []) (i : Nat) (hi : i + q.length ≤ R.length) : Hb (n + m + 1) (inn (-(Mini.cf R t / lc q)) i q R) := by
  obtain ⟨d, d1, d2, hd⟩ := hR.zero
  obtain ⟨e, e1, e2, he⟩ := hq
  have lq := List.length_pos_iff.mpr nq
  obtain ⟨w, ew, hw⟩ := he (lc q) (cf_mem (by omega))
  have hdn := nat_neR d1
  have hen := nat_neR e1
  have w0 : w ≠ 0 := fun z => h0 (by rw [ew, z]; show (0 : Rat) / _ = 0; grind)
  obtain ⟨zt, ezt, hzt⟩ := hd _ (cf_mem0 R t)
  have hwR : (w : Rat) ≠ 0 := fun z => w0 (Rat.intCast_eq_zero_iff.mp z)
  have hDpos : 0 < d * w.natAbs := Nat.mul_pos d1 (by omega)
  have habs : ∃ s : Int, (s = 1 ∨ s = -1) ∧ ((w.natAbs : Nat) : Int) = s * w := by
    by_cases hw0 : 0 ≤ w
    · exact ⟨1, .inl rfl, by omega⟩
    · exact ⟨-1, .inr rfl, by omega⟩
  obtain ⟨s, hs, hsw⟩ := habs
  have hsR : ((w.natAbs : Nat) : Rat) = (s : Rat) * (w : Rat) := by rw [← Rat.intCast_natCast, hsw, Rat.intCast_mul]
  have hss : (s : Rat) * (s : Rat) = 1 := by
    rcases hs with h | h <;> subst h <;> rw [← Rat.intCast_mul] <;> rfl
  have hs0 : (s : Rat) ≠ 0 := fun z => by rw [z] at hss; grind
  have hsa : ∀ z : Int, (s * z).natAbs = z.natAbs := fun z => by
    rcases hs with h | h <;> subst h <;> omega
  refine ⟨d * w.natAbs, hDpos, Nat.lt_of_lt_of_le (nat_lt_pow d2 hw) (Nat.pow_le_pow_right (by omega) (by omega)), fun y hy => ?_⟩
  obtain ⟨j, hj, ej⟩ := List.getElem_of_mem hy
  rw [inn_len] at hj
  have ey : y = Mini.cf (inn (-(Mini.cf R t / lc q)) i q R) j := by
    have := cf_getElem (p := inn (-(Mini.cf R t / lc q)) i q R) (k := j) (by rw [inn_len]; exact hj)
    rw [List.getElem?_eq_getElem (by rw [inn_len]; exact hj), ej] at this
    exact Option.some.inj this
  rw [ey, cf_inn _ _ _ _ _ hi]
  obtain ⟨zj, ezj, hzj⟩ := hd _ (cf_mem0 R j)
  split
  · rename_i hij
    obtain ⟨v, ev', hv⟩ := he _ (cf_mem (p := q) (k := j - i) (by omega))
    refine ⟨s * (zj * w + -(zt * v)), ?_, ?_⟩
    · rw [ezj, ezt, ew, ev', Rat.natCast_mul, hsR, Rat.intCast_mul, Rat.intCast_add, Rat.intCast_neg, Rat.intCast_mul, Rat.intCast_mul]
      generalize (s : Rat) = S at *
      generalize (w : Rat) = W at *
      generalize (d : Rat) = D at *
      generalize (e : Rat) = E at *
      exact alg1 hdn hwR hen hs0 hss _ _ _
    · rw [hsa]
      exact add_lt_pow (natAbs_lt_pow hzj hw) (by rw [Int.natAbs_neg]; exact natAbs_lt_pow hzt hv)
  · refine ⟨s * (zj * w), ?_, ?_⟩
    · rw [ezj, Rat.natCast_mul, hsR, Rat.intCast_mul, Rat.intCast_mul]
      grind
    · rw [hsa]
      exact Nat.lt_of_lt_of_le (natAbs_lt_pow hzj hw) (Nat.pow_le_pow_right (by omega) (by omega))
theorem Hb.dgo {m : Nat} {q : List Rat} (hq : Hb m q) (h0 : lc q ≠ 0) (nq : q ≠ []) : ∀ (k n : Nat) (F R : List Rat), Hb n R → k + q.length ≤ R.length + 1 → Hb (n + k * (m + 1)) (dgo q k F R).2
  | 0, n, F, R, h, _ => by rw [Nat.zero_mul]; exact h
  | k + 1, n, F, R, h, hl => by
    have h1 := h.div1 (t := k + q.length - 1) hq h0 nq k (by omega)
    have h2 := Hb.dgo hq h0 nq k (n + m + 1) (F.set k (Mini.cf R (k + q.length - 1) / lc q)) _ h1 (by rw [inn_len]; omega)
    refine Hb.mono h2 ?_
    rw [Nat.add_mul]
    omega
theorem Hb.prem {n m : Nat} {p q : List Rat} (hp : Hb n p) (hq : Hb m q) (h0 : lc q ≠ 0) (nq : q ≠ []) : Hb (n + (p.length + 1 - q.length) * (m + 1)) (Mini.prem p q) := by
  unfold Mini.prem pdivmod
  by_cases h : q.length ≤ p.length + 1
  · exact (Hb.dgo hq h0 nq _ n _ p hp (by omega)).trim
  · rw [show p.length + 1 - q.length = 0 by omega, Nat.zero_mul]
    exact hp.trim
end Mini
namespace Mini
open PySem L2
theorem C_lead (k : Nat) (hk : 1 ≤ k) (δ : Dl) (q : List Rat) : callE (PF k) f_lead [pl q] δ = .ok (fr (lc q)) δ := by
  obtain ⟨k, rfl⟩ : ∃ m, k = m + 1 := ⟨k - 1, by omega⟩
  refine call_ok ?_ rfl rfl
  rw [F_at (d := d_lead) [some (pl q)] rfl rfl rfl]
  simp only [d_lead, m_lead]
  rcases list_last q with rfl | ⟨p, a, rfl⟩
  · rw [show lc ([] : List Rat) = 0 from rfl, ← fr0]
    simp
  · have hn : ¬ (p ++ [a] = []) := by simp
    have hl : atI ((p ++ [a]).map fr) (-1) = some (fr a) := by rw [List.map_append]; exact atI_last _ _
    have e : lc (p ++ [a]) = a := by
      unfold lc cf
      rw [List.getD_eq_getElem?_getD]
      simp
    rw [e]
    generalize p ++ [a] = q at *
    simp [hn, hl]
theorem part_in (k : Nat) (hk : 3 ≤ k) {δ : Dl} {c : Rat} (hc : Fb 4400 c) (i : Nat) (s0 s1 s4 : Option D) : ∀ (q : List Rat) (j : Nat) (F : List Rat) (s6 s7 : Option D), (∀ b, b ∈ q → Fb 4400 b ∧ Fb 4400 (c * b)) → (∀ t, i + j ≤ t → Fb 4400 (cf F t)) → i + j + q.length ≤ F.length →
    ∃ t6 t7, forGo (.tup [6, 7]) (evS (PF k) fuel b1_parted) (enumFrom j (q.map fr)) [s0, s1, some (.int (i : Nat)), some (.own (F.map fr)), s4, some (fr c), s6, s7] δ =
      .nx [s0, s1, some (.int (i : Nat)), some (.own ((inn (-c) (i + j) q F).map fr)), s4, some (fr c), t6, t7] δ
  | [], j, F, s6, s7, _, _, _ => ⟨s6, s7, rfl⟩
  | b :: q, j, F, s6, s7, hq, hF, hl => by
    obtain ⟨hb, hcb⟩ := hq b List.mem_cons_self
    rw [List.length_cons] at hl
    have hi : i + j < F.length := by omega
    have T := C_times k hk δ hc hb
    have P := C_minus k hk δ (hF (i + j) (Nat.le_refl _)) hcb
    have ix : atI (F.map fr) ((i : Int) + (j : Int)) = some (fr (cf F (i + j))) := by
      rw [show (i : Int) + (j : Int) = ((i + j : Nat) : Int) by omega]
      exact atI_fr hi
    have ixn : ixN (F.map fr).length ((i : Int) + (j : Int)) = some (i + j) := by
      rw [List.length_map]
      unfold ixN
      rw [if_pos (by omega), if_pos (by omega)]
      congr 1
    have st : (F.map fr).set (i + j) (fr (cf F (i + j) - c * b)) = (addAt F (i + j) (-c * b)).map fr := by
      unfold addAt
      rw [List.map_set, show cf F (i + j) + -c * b = cf F (i + j) - c * b by grind]
    obtain ⟨t6, t7, e⟩ := part_in k hk (δ := δ) hc i s0 s1 s4 q (j + 1) (addAt F (i + j) (-c * b)) (some (.int (j : Nat))) (some (fr b)) (fun d hd => hq d (List.mem_cons_of_mem _ hd)) (fun t ht => by
      unfold addAt
      rw [cf_set hi, if_neg (by omega)]
      exact hF t (by omega)) (by rw [addAt_len]; omega)
    refine ⟨t6, t7, ?_⟩
    show forGo (.tup [6, 7]) (evS (PF k) fuel b1_parted) (.tup [.int (j : Nat), fr b] :: enumFrom (j + 1) (q.map fr)) _ δ = _
    rw [forGo_nx (σ1 := [s0, s1, some (.int (i : Nat)), some (.own (F.map fr)), s4, some (fr c), some (.int (j : Nat)), some (fr b)]) (σ2 := [s0, s1, some (.int (i : Nat)), some (.own ((addAt F (i + j) (-c * b)).map fr)), s4, some (fr c), some (.int (j : Nat)), some (fr b)]) (δ2 := δ) (by simp) (by
      rw [← st]
      generalize F.map fr = L at *
      simp [b1_parted, ix, T, P, ixn]), e]
    rfl
theorem part_out (k : Nat) (hk : 3 ≤ k) {δ : Dl} {m : Nat} {q : List Rat} (hq : Hb m q) (h0 : lc q ≠ 0) (nq : q ≠ []) (s0 : Option D) : ∀ (i n : Nat) (F R : List Rat) (s2 s5 s6 s7 : Option D), Hb n R → i + q.length ≤ R.length + 1 → i ≤ F.length → n + i * (m + 1) + 2 * m + 1 ≤ 4400 →
    ∃ t2 t5 t6 t7, forGo (.name 2) (evS (PF k) fuel b2_parted) (rngFrom ((i : Int) - 1) (-1) i) [s0, some (pl q), s2, some (.own (R.map fr)), some (.own (F.map fr)), s5, s6, s7] δ =
      .nx [s0, some (pl q), t2, some (.own ((dgo q i F R).2.map fr)), some (.own ((dgo q i F R).1.map fr)), t5, t6, t7] δ
  | 0, n, F, R, s2, s5, s6, s7, _, _, _, _ => ⟨s2, s5, s6, s7, rfl⟩
  | i + 1, n, F, R, s2, s5, s6, s7, hR, hl, hF, hs => by
    rw [Nat.add_mul, Nat.one_mul] at hs
    have lq := List.length_pos_iff.mpr nq
    have fl := hq.fb (cf_mem (p := q) (k := q.length - 1) (by omega))
    have ft := hR.cf (i + q.length - 1)
    have fc : Fb (n + m) (cf R (i + q.length - 1) / lc q) := ft.div fl
    have hin : ∀ b, b ∈ q → Fb 4400 b ∧ Fb 4400 (cf R (i + q.length - 1) / lc q * b) := fun b hb => ⟨(hq.fb hb).mono (by omega), (fc.mul (hq.fb hb)).mono (by omega)⟩
    obtain ⟨t6, t7, e1⟩ := part_in k hk (δ := δ) (fc.mono (by omega)) i s0 (some (pl q)) (some (.own ((F.set i (cf R (i + q.length - 1) / lc q)).map fr))) q 0 R s6 s7 hin (fun t _ => (hR.cf t).mono (by omega)) (by omega)
    have hR' := hR.div1 (t := i + q.length - 1) hq h0 nq i (by omega)
    obtain ⟨u2, u5, u6, u7, e2⟩ := part_out k hk (δ := δ) hq h0 nq s0 i (n + m + 1) (F.set i (cf R (i + q.length - 1) / lc q)) (inn (-(cf R (i + q.length - 1) / lc q)) i q R) (some (.int (i : Nat))) (some (fr (cf R (i + q.length - 1) / lc q))) t6 t7 hR' (by rw [inn_len]; omega) (by rw [List.length_set]; omega) (by omega)
    refine ⟨u2, u5, u6, u7, ?_⟩
    have ix : atI (R.map fr) ((i : Int) + (q.length : Int) - 1) = some (fr (cf R (i + q.length - 1))) := by
      rw [show (i : Int) + (q.length : Int) - 1 = ((i + q.length - 1 : Nat) : Int) by omega]
      exact atI_fr (by omega)
    have ixn : ixN (F.map fr).length (i : Int) = some i := by
      rw [List.length_map]
      unfold ixN
      rw [if_pos (by omega), if_pos (by omega), Int.toNat_natCast]
    have Ld := C_lead k (by omega) δ q
    have Ov := C_over k hk δ (a := cf R (i + q.length - 1)) (b := lc q) (ft.mono (by omega)) (fl.mono (by omega)) h0
    have st : (F.map fr).set i (fr (cf R (i + q.length - 1) / lc q)) = (F.set i (cf R (i + q.length - 1) / lc q)).map fr := List.map_set.symm
    have it : itemsD δ .enum [pl q] = some (enumFrom 0 (q.map fr)) := rfl
    rw [Nat.add_zero] at e1
    show forGo (.name 2) (evS (PF k) fuel b2_parted) (.int (((i + 1 : Nat) : Int) - 1) :: rngFrom (((i + 1 : Nat) : Int) - 1 + -1) (-1) i) _ δ = _
    rw [show ((i + 1 : Nat) : Int) - 1 = (i : Nat) by omega, show (i : Int) + -1 = (i : Int) - 1 by omega]
    rw [forGo_nx (σ1 := [s0, some (pl q), some (.int (i : Nat)), some (.own (R.map fr)), some (.own (F.map fr)), s5, s6, s7]) (σ2 := [s0, some (pl q), some (.int (i : Nat)), some (.own ((inn (-(cf R (i + q.length - 1) / lc q)) i q R).map fr)), some (.own ((F.set i (cf R (i + q.length - 1) / lc q)).map fr)), some (fr (cf R (i + q.length - 1) / lc q)), t6, t7]) (δ2 := δ) (by simp) (by
      rw [← st] at e1 ⊢
      generalize R.map fr = RL at *
      generalize F.map fr = FL at *
      simp [b2_parted, ix, Ld, Ov, ixn, it, e1]), e2]
    rfl
theorem C_parted (k : Nat) (hk : 4 ≤ k) (δ : Dl) {n m : Nat} {p q : List Rat} (hp : Hb n p) (hq : Hb m q) (h0 : lc q ≠ 0) (nq : q ≠ []) (lp : p.length ≤ 1000) (lq2 : q.length ≤ 1000) (hs : n + (p.length + 1 - q.length) * (m + 1) + 2 * m + 1 ≤ 4400) : callE (PF k) f_parted [pl p, pl q] δ = .ok (.tup [pl (pquo p q), pl (prem p q)]) δ := by
  obtain ⟨k, rfl⟩ : ∃ m, k = m + 1 := ⟨k - 1, by omega⟩
  refine call_ok ?_ rfl rfl
  rw [F_at (d := d_parted) [some (pl p), some (pl q), none, none, none, none, none, none] rfl rfl rfl]
  have lq := List.length_pos_iff.mpr nq
  have mx : bltD δ .max2 [.int 0, .int ((p.length : Int) - (q.length : Int) + 1)] = some (.int ((p.length + 1 - q.length : Nat) : Int)) := by
    show some (D.int (if (p.length : Int) - (q.length : Int) + 1 > 0 then (p.length : Int) - (q.length : Int) + 1 else 0)) = _
    congr 2
    split <;> omega
  have rp : binD .Mult (.lst [fr 0]) (.int ((p.length + 1 - q.length : Nat) : Int)) = some (.lst ((List.replicate (p.length + 1 - q.length) (0 : Rat)).map fr)) := rep_zero _ rfl (by omega)
  have it : itemsD δ .rng3 [.int ((p.length : Int) - (q.length : Int)), .int (-1), .int (-1)] = some (rngFrom (((p.length + 1 - q.length : Nat) : Int) - 1) (-1) (p.length + 1 - q.length)) := by
    show (if rOk ((p.length : Int) - (q.length : Int)) && rOk (-1) && decide ((-1 : Int) = -1) then some (rngFrom ((p.length : Int) - (q.length : Int)) (-1) ((p.length : Int) - (q.length : Int) - -1).toNat) else none) = _
    rw [show rOk ((p.length : Int) - (q.length : Int)) = true from rOk_le (by omega) (by omega), show rOk (-1) = true from rOk_le (by omega) (by omega)]
    simp only [Bool.and_self, decide_true, if_true]
    by_cases h : q.length ≤ p.length
    · rw [show ((p.length : Int) - (q.length : Int) - -1).toNat = p.length + 1 - q.length by omega, show (p.length : Int) - (q.length : Int) = ((p.length + 1 - q.length : Nat) : Int) - 1 by omega]
    · rw [show ((p.length : Int) - (q.length : Int) - -1).toNat = 0 by omega, show p.length + 1 - q.length = 0 by omega]
      rfl
  have neq : eqD (pl q) (.tup []) = some false := by rw [eqD_plnil, decide_eq_false nq]
  have main : ∃ t2 t5 t6 t7, forGo (.name 2) (evS (PF k) fuel b2_parted) (rngFrom (((p.length + 1 - q.length : Nat) : Int) - 1) (-1) (p.length + 1 - q.length)) [some (pl p), some (pl q), none, some (.own (p.map fr)), some (.own ((List.replicate (p.length + 1 - q.length) (0 : Rat)).map fr)), none, none, none] δ =
      .nx [some (pl p), some (pl q), t2, some (.own ((pdivmod p q).2.map fr)), some (.own ((pdivmod p q).1.map fr)), t5, t6, t7] δ := by
    by_cases h : q.length ≤ p.length + 1
    · exact part_out k (by omega) hq h0 nq (some (pl p)) (p.length + 1 - q.length) n (List.replicate (p.length + 1 - q.length) 0) p none none none none hp (by omega) (by simp) hs
    · rw [show p.length + 1 - q.length = 0 by omega]
      refine ⟨none, none, none, none, ?_⟩
      unfold pdivmod
      rw [show p.length + 1 - q.length = 0 by omega]
      rfl
  obtain ⟨t2, t5, t6, t7, e⟩ := main
  have dl := dgo_len (q := q) (p.length + 1 - q.length) (List.replicate (p.length + 1 - q.length) 0) p
  rw [List.length_replicate] at dl
  have C1 := C_cutL k (by omega) δ (pdivmod p q).1 (by unfold pdivmod; omega)
  have C2 := C_cutL k (by omega) δ (pdivmod p q).2 (by unfold pdivmod; omega)
  rw [show trim (pdivmod p q).1 = pquo p q from rfl] at C1
  rw [show trim (pdivmod p q).2 = prem p q from rfl] at C2
  simp only [d_parted, m_parted]
  generalize (List.replicate (p.length + 1 - q.length) (0 : Rat)).map fr = Z at *
  generalize rngFrom (((p.length + 1 - q.length : Nat) : Int) - 1) (-1) (p.length + 1 - q.length) = rl at *
  generalize (pdivmod p q).1 = M1 at *
  generalize (pdivmod p q).2 = M2 at *
  simp [neq, fr0, mx, rp, it, e, C1, C2]
end Mini
namespace Mini
open PySem L2
def Sq (q : Rat) : Prop := q.num.natAbs ≤ 5 ∧ q.den ≤ 3
theorem Sq.fb {q : Rat} (h : Sq q) : Fb 3 q := ⟨by have := h.1; omega, by have := h.2; omega⟩
theorem Sq.gd {p : List Rat} (h : ∀ q, q ∈ p → Sq q) : Gd 6 30 p := fun q hq => by
  obtain ⟨h1, h2⟩ := h q hq
  have h3 := q.den_pos
  have e := q_div q
  have h4 : q.den = 1 ∨ q.den = 2 ∨ q.den = 3 := by omega
  rcases h4 with h4 | h4 | h4 <;> rw [h4] at e
  · refine ⟨q.num * 6, ?_, by omega⟩
    rw [Rat.intCast_mul, e.trans (by rfl : _ = (q.num : Rat) / ((1 : Nat) : Rat))]
    have : ((1 : Nat) : Rat) = 1 := rfl
    have h6 : ((6 : Nat) : Rat) = 6 := rfl
    have h7 : ((6 : Int) : Rat) = 6 := rfl
    rw [this, h6, h7]
    grind
  · refine ⟨q.num * 3, ?_, by omega⟩
    rw [Rat.intCast_mul, e.trans (by rfl : _ = (q.num : Rat) / ((2 : Nat) : Rat))]
    have : ((2 : Nat) : Rat) = 2 := rfl
    have h6 : ((6 : Nat) : Rat) = 6 := rfl
    have h7 : ((3 : Int) : Rat) = 3 := rfl
    rw [this, h6, h7]
    grind
  · refine ⟨q.num * 2, ?_, by omega⟩
    rw [Rat.intCast_mul, e.trans (by rfl : _ = (q.num : Rat) / ((3 : Nat) : Rat))]
    have : ((3 : Nat) : Rat) = 3 := rfl
    have h6 : ((6 : Nat) : Rat) = 6 := rfl
    have h7 : ((2 : Int) : Rat) = 2 := rfl
    rw [this, h6, h7]
    grind
theorem Sq.hb {p : List Rat} (h : ∀ q, q ∈ p → Sq q) : Hb 5 p := (Sq.gd h).hb (by omega) (by decide) (by decide)
end Mini
namespace Mini
end Mini
namespace Mini
theorem mem_cf {p : List Rat} {q : Rat} (h : q ∈ p) : ∃ k, k < p.length ∧ q = cf p k := by
  obtain ⟨k, hk, e⟩ := List.getElem_of_mem h
  exact ⟨k, hk, by unfold cf; rw [List.getD_eq_getElem?_getD, List.getElem?_eq_getElem hk]; exact e.symm⟩
theorem Gd.cf {D B : Nat} {p : List Rat} (h : Gd D B p) (h0 : 0 < D) (k : Nat) : ∃ z : Int, cf p k = (z : Rat) / (D : Rat) ∧ z.natAbs ≤ B := by
  by_cases hk : k < p.length
  · exact h _ (cf_mem hk)
  · rw [cf_ge (by omega)]
    refine ⟨0, ?_, Nat.zero_le _⟩
    have := nat_neR h0
    grind
theorem gd_of_cf {D B : Nat} {p : List Rat} (h : ∀ k, ∃ z : Int, Mini.cf p k = (z : Rat) / (D : Rat) ∧ z.natAbs ≤ B) : Gd D B p := fun q hq => by
  obtain ⟨k, _, e⟩ := mem_cf hq
  rw [e]
  exact h k
theorem Gd.padd {D A B : Nat} {p q : List Rat} (hp : Gd D A p) (hq : Gd D B q) (h0 : 0 < D) : Gd D (A + B) (padd p q) := gd_of_cf fun k => by
  obtain ⟨z, ez, hz⟩ := hp.cf h0 k
  obtain ⟨y, ey, hy⟩ := hq.cf h0 k
  refine ⟨z + y, ?_, by omega⟩
  rw [cf_padd, ez, ey, Rat.intCast_add]
  have := nat_neR h0
  grind
theorem Gd.psub {D A B : Nat} {p q : List Rat} (hp : Gd D A p) (hq : Gd D B q) (h0 : 0 < D) : Gd D (A + B) (psub p q) := gd_of_cf fun k => by
  obtain ⟨z, ez, hz⟩ := hp.cf h0 k
  obtain ⟨y, ey, hy⟩ := hq.cf h0 k
  refine ⟨z - y, ?_, by omega⟩
  rw [cf_psub, ez, ey, Rat.intCast_sub]
  have := nat_neR h0
  grind
theorem Gd.trim {D B : Nat} {p : List Rat} (h : Gd D B p) : Gd D B (trim p) := h.sub fun q hq => trim_mem hq
theorem Gd.evN {D B : Nat} (h0 : 0 < D) (a : Nat) : ∀ {p : List Rat}, Gd D B p → ∃ z : Int, ev p (a : Rat) = (z : Rat) / (D : Rat) ∧ z.natAbs ≤ B * (a + 1) ^ p.length
  | [], h => ⟨0, by
    have := nat_neR h0
    show (0 : Rat) = _
    have : ((0 : Int) : Rat) = 0 := rfl
    grind, Nat.zero_le _⟩
  | c :: p, h => by
    obtain ⟨z, ez, hz⟩ := Gd.evN h0 a (p := p) (h.sub fun q hq => List.mem_cons_of_mem _ hq)
    obtain ⟨y, ey, hy⟩ := h c List.mem_cons_self
    refine ⟨y + (a : Int) * z, ?_, ?_⟩
    · rw [evq_cons, ez, ey, Rat.intCast_add, Rat.intCast_mul]
      have := nat_neR h0
      have : (((a : Nat) : Int) : Rat) = (a : Rat) := rfl
      grind
    · have h1 : (y + (a : Int) * z).natAbs ≤ y.natAbs + a * z.natAbs := by
        have := Int.natAbs_add_le y ((a : Int) * z)
        rw [Int.natAbs_mul] at this
        simpa using this
      have h2 := Nat.mul_le_mul_left a hz
      have h3 : B ≤ B * (a + 1) ^ p.length := Nat.le_mul_of_pos_right _ (Nat.pow_pos (by omega))
      rw [List.length_cons, Nat.pow_succ, ← Nat.mul_assoc]
      generalize B * (a + 1) ^ p.length = w at *
      rw [Nat.mul_add, Nat.mul_comm w a]
      omega
theorem Gd.syn {D B : Nat} (h0 : 0 < D) (a : Nat) : ∀ {p : List Rat}, Gd D B p → Gd D (B * (a + 1) ^ p.length) (syn (a : Rat) p)
  | [], h => fun q hq => by cases hq
  | [c], h => fun q hq => by cases hq
  | c :: d :: p, h => fun q hq => by
    have ht : Gd D B (d :: p) := h.sub fun q hq => List.mem_cons_of_mem _ hq
    have hw : B * (a + 1) ^ (d :: p).length ≤ B * (a + 1) ^ (c :: d :: p).length := Nat.mul_le_mul_left B (Nat.pow_le_pow_right (by omega) (by simp))
    rcases List.mem_cons.mp hq with e | e
    · obtain ⟨z, ez, hz⟩ := ht.evN h0 a
      exact ⟨z, by rw [e]; exact ez, by omega⟩
    · exact ((Gd.syn h0 a ht).mono hw) q e
end Mini
namespace Mini
theorem sm_zer {f : Nat → Rat} {n : Nat} (h : ∀ k, k < n → f k = 0) : sm f n = 0 := by
  rw [sm_congr (g := fun _ => 0) h]
  clear h
  induction n with
  | zero => rfl
  | succ n ih =>
    show sm _ n + (0 : Rat) = 0
    rw [ih]; grind
theorem cf_mulL : ∀ (p q : List Rat) (k : Nat), cf (mulL p q) k = sm (fun j => cf p j * cf q (k - j)) (k + 1)
  | [], q, k => by
    rw [sm_zer (n := k + 1) fun j _ => by rw [cf_nil]; grind]; rfl
  | a :: p, q, k => by
    show cf (padd (pscal q a) (0 :: mulL p q)) k = _
    rw [cf_padd, cf_pscal, sm_head]
    cases k with
    | zero =>
      show cf q 0 * a + 0 = a * cf q (0 - 0) + 0
      rw [Nat.sub_self]; grind
    | succ k =>
      show cf q (k + 1) * a + cf (mulL p q) k = a * cf q (k + 1 - 0) + _
      rw [cf_mulL p q k, Nat.sub_zero, sm_congr (f := fun j => cf (a :: p) (j + 1) * cf q (k + 1 - (j + 1))) (g := fun j => cf p j * cf q (k - j)) fun j _ => by rw [Nat.add_sub_add_right]; rfl]
      grind
theorem cf_pmul (p q : List Rat) (k : Nat) : cf (pmul p q) k = sm (fun j => cf p j * cf q (k - j)) (k + 1) := by
  unfold pmul
  rw [cf_trim, cf_mulL]
def sft (n : Nat) (u : List Rat) : List Rat := List.replicate n 0 ++ u
theorem evq_sft (n : Nat) (u : List Rat) (x : Rat) : ev (sft n u) x = x ^ n * ev u x := by
  induction n with
  | zero => rw [Rat.pow_zero]; show ev u x = _; grind
  | succ n ih =>
    show ev (0 :: sft n u) x = _
    rw [evq_cons, ih, Rat.pow_succ]; grind
theorem cf_sft {n k : Nat} (u : List Rat) (h : k < n) : cf (sft n u) k = 0 := by
  unfold sft cf
  rw [List.getD_eq_getElem?_getD, List.getElem?_append_left (by simpa using h), List.getElem?_replicate, if_pos h]
  rfl
theorem cf_sft_add (n k : Nat) (u : List Rat) : cf (sft n u) (n + k) = cf u k := by
  unfold sft cf
  rw [List.getD_eq_getElem?_getD, List.getElem?_append_right (by simp), List.getD_eq_getElem?_getD]
  simp
theorem ev_low : ∀ (n : Nat) (l : List Rat), (∀ k, k < n → cf l k = 0) → ∀ x, ev l x = x ^ n * ev (l.drop n) x
  | 0, l, _, x => by rw [Rat.pow_zero, List.drop_zero]; grind
  | n + 1, [], _, x => by
    rw [List.drop_nil, evq_nil]; grind
  | n + 1, a :: l, h, x => by
    have h0 : a = 0 := h 0 (by omega)
    rw [evq_cons, ev_low n l (fun k hk => h (k + 1) (by omega)) x, h0, List.drop_succ_cons, Rat.pow_succ]
    grind
def Cg (n : Nat) (p q : List Rat) : Prop := ∃ u : List Rat, ∀ x, ev p x = ev q x + x ^ n * ev u x
theorem Cg.cf {n : Nat} {p q : List Rat} (h : Cg n p q) {k : Nat} (hk : k < n) : cf p k = cf q k := by
  obtain ⟨u, hu⟩ := h
  have := cf_of_ev (p := p) (q := padd q (sft n u)) (fun x => by rw [evq_padd, evq_sft, hu x]) k
  rw [this, cf_padd, cf_sft u hk]; grind
theorem cg_cf {n : Nat} {p q : List Rat} (h : ∀ k, k < n → cf p k = cf q k) : Cg n p q := by
  refine ⟨(psub p q).drop n, fun x => ?_⟩
  rw [← ev_low n (psub p q) (fun k hk => by rw [cf_psub, h k hk]; grind) x, evq_psub]
  grind
theorem cg_ev {n : Nat} {p q : List Rat} (h : ∀ x, ev p x = ev q x) : Cg n p q := ⟨[], fun x => by rw [h x, evq_nil]; grind⟩
theorem Cg.symm {n : Nat} {p q : List Rat} (h : Cg n p q) : Cg n q p := cg_cf fun k hk => (h.cf hk).symm
theorem Cg.trans {n : Nat} {p q r : List Rat} (h : Cg n p q) (h2 : Cg n q r) : Cg n p r := cg_cf fun k hk => (h.cf hk).trans (h2.cf hk)
theorem Cg.mul {n : Nat} {p q r s : List Rat} (h : Cg n p q) (h2 : Cg n r s) : Cg n (pmul p r) (pmul q s) := by
  obtain ⟨u, hu⟩ := h
  obtain ⟨w, hw⟩ := h2
  refine ⟨padd (pmul u r) (pmul q w), fun x => ?_⟩
  rw [evq_pmul, evq_pmul, evq_padd, evq_pmul, evq_pmul, hu x, hw x]
  grind
theorem Cg.sub {n : Nat} {p q r s : List Rat} (h : Cg n p q) (h2 : Cg n r s) : Cg n (psub p r) (psub q s) := cg_cf fun k hk => by
  rw [cf_psub, cf_psub, h.cf hk, h2.cf hk]
theorem cg_zero {n : Nat} {p : List Rat} (h : Cg n p []) (hl : p.length ≤ n) (x : Rat) : ev p x = 0 := by
  obtain ⟨u, hu⟩ := h
  have : ∀ k, cf p k = cf ([] : List Rat) k := fun k => by
    by_cases hk : k < n
    · exact Cg.cf ⟨u, hu⟩ hk
    · rw [cf_ge (by omega)]; rfl
  rw [evq_congr this]; rfl
theorem pow_cancel {n : Nat} {p q : List Rat} (h : ∀ x, x ^ n * ev p x = x ^ n * ev q x) (x : Rat) : ev p x = ev q x := by
  refine evq_congr (fun k => ?_) x
  have := cf_of_ev (p := sft n p) (q := sft n q) (fun x => by rw [evq_sft, evq_sft, h x]) (n + k)
  rw [cf_sft_add, cf_sft_add] at this
  exact this
def tk (p : List Rat) (n : Nat) : List Rat := (List.range n).map (cf p)
theorem tk_len (p : List Rat) (n : Nat) : (tk p n).length = n := by simp [tk]
theorem cf_map_range {f : Nat → Rat} {n k : Nat} (h : k < n) : cf ((List.range n).map f) k = f k := by
  unfold cf
  rw [List.getD_eq_getElem?_getD, List.getElem?_map, List.getElem?_range h]
  rfl
theorem cf_tk {p : List Rat} {n k : Nat} (h : k < n) : cf (tk p n) k = cf p k := cf_map_range h
theorem cg_tk (p : List Rat) (n : Nat) : Cg n (tk p n) p := cg_cf fun k hk => cf_tk hk
theorem list_cf {p q : List Rat} (hl : p.length = q.length) (h : ∀ k, k < p.length → cf p k = cf q k) : p = q := by
  refine List.ext_getElem hl fun k h1 h2 => ?_
  have := h k h1
  rw [← Option.some_inj, ← List.getElem?_eq_getElem h1, ← List.getElem?_eq_getElem h2, cf_getElem h1, cf_getElem h2, this]
def tnx (b F : List Rat) (m : Nat) : Rat := 0 - sm (fun j => cf b (j + 1) * cf F (m - (j + 1))) m * cf F 0
def tnv (b : List Rat) : Nat → List Rat
  | 0 => []
  | 1 => [1 / cf b 0]
  | m + 2 => tnv b (m + 1) ++ [tnx b (tnv b (m + 1)) (m + 1)]
theorem tnv_len (b : List Rat) : ∀ m, (tnv b m).length = m
  | 0 => rfl
  | 1 => rfl
  | m + 2 => by
    show (tnv b (m + 1) ++ _).length = _
    rw [List.length_append, tnv_len b (m + 1)]; rfl
theorem cf_left {p q : List Rat} {k : Nat} (h : k < p.length) : cf (p ++ q) k = cf p k := by
  unfold cf
  rw [List.getD_eq_getElem?_getD, List.getD_eq_getElem?_getD, List.getElem?_append_left h]
theorem cf_end (p : List Rat) (a : Rat) : cf (p ++ [a]) p.length = a := by
  unfold cf
  rw [List.getD_eq_getElem?_getD, List.getElem?_append_right (Nat.le_refl _)]
  simp
theorem tnv_one {b : List Rat} (h0 : cf b 0 ≠ 0) : ∀ (m k : Nat), k < m → sm (fun j => cf b j * cf (tnv b m) (k - j)) (k + 1) = cf [1] k
  | 0, k, h => by omega
  | 1, k, h => by
    obtain rfl : k = 0 := by omega
    show 0 + cf b 0 * (1 / cf b 0) = 1
    grind
  | m + 2, k, h => by
    have hl := tnv_len b (m + 1)
    by_cases hk : k < m + 1
    · rw [← tnv_one h0 (m + 1) k hk]
      refine sm_congr fun j hj => ?_
      show cf b j * cf (tnv b (m + 1) ++ _) (k - j) = _
      rw [cf_left (by omega)]
    · obtain rfl : k = m + 1 := by omega
      have h1 := tnv_one h0 (m + 1) 0 (by omega)
      have h1' : cf b 0 * cf (tnv b (m + 1)) 0 = 1 := by
        have : sm (fun j => cf b j * cf (tnv b (m + 1)) (0 - j)) (0 + 1) = 0 + cf b 0 * cf (tnv b (m + 1)) 0 := rfl
        rw [this] at h1
        have : cf [1] 0 = 1 := rfl
        grind
      rw [sm_head]
      have e1 : cf (tnv b (m + 2)) (m + 1 - 0) = tnx b (tnv b (m + 1)) (m + 1) := by
        have := cf_end (tnv b (m + 1)) (tnx b (tnv b (m + 1)) (m + 1))
        rw [hl] at this
        exact this
      rw [e1, sm_congr (f := fun j => cf b (j + 1) * cf (tnv b (m + 2)) (m + 1 - (j + 1))) (g := fun j => cf b (j + 1) * cf (tnv b (m + 1)) (m + 1 - (j + 1))) fun j hj => by
        show cf b (j + 1) * cf (tnv b (m + 1) ++ _) (m + 1 - (j + 1)) = _
        rw [cf_left (by omega)]]
      unfold tnx
      have : cf [1] (m + 1) = 0 := rfl
      rw [this]
      grind
theorem cg_tnv {b : List Rat} (h0 : cf b 0 ≠ 0) (n : Nat) : Cg n (pmul b (tnv b n)) [1] := cg_cf fun k hk => by
  rw [cf_pmul, tnv_one h0 n k hk]
theorem cg_inv {q : List Rat} (h0 : cf q 0 ≠ 0) (n : Nat) : Cg n (pmul q (tnv (tk q n) n)) [1] := by
  cases n with
  | zero => exact cg_cf fun k hk => by omega
  | succ n =>
    have h1 : cf (tk q (n + 1)) 0 ≠ 0 := by rw [cf_tk (by omega)]; exact h0
    exact ((cg_tk q (n + 1)).symm.mul (cg_ev fun x => rfl)).trans (cg_tnv h1 (n + 1))
theorem cg_unit {q a b : List Rat} (h0 : cf q 0 ≠ 0) {n : Nat} (h : Cg n (pmul q a) (pmul q b)) : Cg n a b := by
  have hv := cg_inv h0 n
  have e : ∀ a : List Rat, Cg n (pmul (pmul q a) (tnv (tk q n) n)) a := fun a =>
    ((cg_ev (q := pmul a (pmul q (tnv (tk q n) n))) fun x => by rw [evq_pmul, evq_pmul, evq_pmul, evq_pmul]; grind).trans ((cg_ev (p := a) fun x => rfl).mul hv)).trans (cg_ev fun x => by rw [evq_pmul, ev_one]; grind)
  exact ((e a).symm.trans (h.mul (cg_ev fun x => rfl))).trans (e b)
end Mini
namespace Mini
theorem key {p q s r t r' t' : List Rat} {σ : Rat} (hq0 : cf q 0 ≠ 0) (H1 : Cg 8 (pmul q s) p) (H2 : Cg 8 (pmul t s) r) (H3 : Cg 8 (pmul t' s) r') (H4 : ∀ x, ev r x * ev t' x - ev r' x * ev t x = σ * x ^ 8) (l1 : r.length + q.length ≤ 9) (l2 : t.length + p.length ≤ 9) :
    ∃ w, Tr w ∧ (∀ x, ev t x * ev w x = σ * ev q x) ∧ (∀ x, ev r x * ev w x = σ * ev p x) := by
  have E1 : ∀ x, ev r x * ev q x = ev t x * ev p x := by
    have c : Cg 8 (psub (pmul r q) (pmul t p)) [] := by
      have a1 : Cg 8 (pmul r q) (pmul (pmul t s) q) := H2.symm.mul (cg_ev fun x => rfl)
      have a2 : Cg 8 (pmul t p) (pmul t (pmul q s)) := (cg_ev fun x => rfl).mul H1.symm
      exact (a1.sub a2).trans (cg_ev fun x => by rw [evq_psub, evq_pmul, evq_pmul, evq_pmul, evq_pmul, evq_nil]; grind)
    have l := psub_len (pmul r q) (pmul t p)
    have l3 := pmul_len r q
    have l4 := pmul_len t p
    intro x
    have := cg_zero c (by omega) x
    rw [evq_psub, evq_pmul, evq_pmul] at this
    grind
  have E2 : Cg 8 (psub (pmul p t') (pmul r' q)) [] := by
    have a1 : Cg 8 (pmul p t') (pmul (pmul q s) t') := H1.symm.mul (cg_ev fun x => rfl)
    have a2 : Cg 8 (pmul r' q) (pmul (pmul t' s) q) := H3.symm.mul (cg_ev fun x => rfl)
    exact (a1.sub a2).trans (cg_ev fun x => by rw [evq_psub, evq_pmul, evq_pmul, evq_pmul, evq_pmul, evq_nil]; grind)
  obtain ⟨u, hu⟩ := E2
  have hu' : ∀ x, ev p x * ev t' x - ev r' x * ev q x = x ^ 8 * ev u x := fun x => by
    have := hu x
    rw [evq_psub, evq_pmul, evq_pmul, evq_nil] at this
    grind
  have T : ∀ x, ev t x * ev u x = σ * ev q x := fun x => by
    have := pow_cancel (n := 8) (p := pmul t u) (q := pscal q σ) (fun x => by
      rw [evq_pmul, evq_pscal]
      have h1 := hu' x
      have h2 := H4 x
      have h3 := E1 x
      generalize x ^ 8 = X at *
      have : ev t x * (X * ev u x) = ev q x * (σ * X) := by rw [← h1, ← h2]; grind
      grind) x
    rw [evq_pmul, evq_pscal] at this
    grind
  refine ⟨trim u, trim_tr u, fun x => by rw [evq_trim]; exact T x, fun x => ?_⟩
  rw [evq_trim]
  have h : ∀ x, ev (pmul q (pmul r u)) x = ev (pmul q (pscal p σ)) x := fun x => by
    rw [evq_pmul, evq_pmul, evq_pmul, evq_pscal]
    have h1 := T x
    have h2 := E1 x
    have : ev q x * (ev r x * ev u x) = ev p x * (ev t x * ev u x) := by grind
    rw [this, h1]; grind
  have h2 : ∀ k, cf (pmul r u) k = cf (pscal p σ) k := fun k => (cg_unit hq0 (n := k + 1) (cg_ev h)).cf (Nat.lt_succ_self k)
  have h3 := evq_congr h2 x
  rw [evq_pmul, evq_pscal] at h3
  grind
theorem dvd_len {t w q : List Rat} {c : Rat} (ht : Tr t) (hw : Tr w) (nw : w ≠ []) (h : ∀ x, ev t x * ev w x = c * ev q x) : t.length ≤ q.length := by
  by_cases nt : t = []
  · rw [nt]; exact Nat.zero_le _
  · have e : pmul t w = pscal q c := evq_ext (pmul_tr _ _) (pscal_tr _ _) fun x => by rw [evq_pmul, evq_pscal, h x]; grind
    have l := pmul_length ht hw nt nw
    rw [e] at l
    have l2 := pscal_len q c
    have := List.length_pos_iff.mpr nw
    omega
theorem unit_len {g u : List Rat} {σ : Rat} (hg : Tr g) (h0 : cf g 0 ≠ 0) (hσ : σ ≠ 0) (h : ∀ x, ev g x * ev u x = σ * x ^ 8) : g.length = 1 := by
  have c : Cg 8 (pmul g u) (pmul g []) := ⟨[σ], fun x => by rw [evq_pmul, evq_pmul, evq_nil, ev_one, h x]; grind⟩
  obtain ⟨v, hv⟩ := cg_unit h0 c
  have e : ∀ x, ev g x * ev v x = σ * ev [1] x := fun x => by
    have := pow_cancel (n := 8) (p := pmul g v) (q := [σ]) (fun x => by
      have h1 := h x
      rw [hv x, evq_nil] at h1
      rw [evq_pmul, ev_one]
      grind) x
    rw [evq_pmul, ev_one] at this
    rw [this, ev_one]; grind
  have nv : trim v ≠ [] := fun z => by
    have := e 0
    rw [← evq_trim v, z, evq_nil, ev_one] at this
    exact hσ (by grind)
  have l := dvd_len (q := [1]) hg (trim_tr v) nv fun x => by rw [evq_trim]; exact e x
  have ng : g ≠ [] := fun z => h0 (by rw [z]; rfl)
  have := List.length_pos_iff.mpr ng
  simp at l
  omega
theorem Hb.set {n m : Nat} {F : List Rat} {v : Rat} (h : Hb n F) (hv : Fb m v) (k : Nat) : Hb (n + m) (F.set k v) := by
  obtain ⟨d, h1, h2, h3⟩ := h
  have hd := v.den_pos
  have p2 : 0 < 2 ^ m := Nat.two_pow_pos m
  refine ⟨d * v.den, Nat.mul_pos h1 hd, ?_, fun q hq => ?_⟩
  · rw [Nat.pow_add]
    exact Nat.lt_of_lt_of_le (Nat.mul_lt_mul_of_pos_right h2 hd) (Nat.mul_le_mul_left _ (Nat.le_of_lt hv.2))
  · have nd := nat_neR h1
    have nv := nat_neR hd
    rcases List.mem_or_eq_of_mem_set hq with hq | rfl
    · obtain ⟨z, e, hz⟩ := h3 q hq
      refine ⟨z * (v.den : Nat), ?_, ?_⟩
      · rw [e, Rat.intCast_mul, Rat.natCast_mul]
        have : (((v.den : Nat) : Int) : Rat) = ((v.den : Nat) : Rat) := rfl
        rw [this]
        grind
      · exact natAbs_lt_pow hz (by simpa using hv.2)
    · refine ⟨q.num * (d : Nat), ?_, ?_⟩
      · rw [Rat.intCast_mul, Rat.natCast_mul]
        have : (((d : Nat) : Int) : Rat) = ((d : Nat) : Rat) := rfl
        rw [this]
        have := q_div q
        rw [this]
        have e : ((q.num : Rat) / ((q.den : Nat) : Rat)).den = q.den := by rw [← this]
        have e2 : ((q.num : Rat) / ((q.den : Nat) : Rat)).num = q.num := by rw [← this]
        rw [e, e2]
        grind
      · rw [Nat.add_comm n m]
        exact natAbs_lt_pow hv.1 (by simpa using h2)
def qb : Nat → Nat → Nat → Nat → Nat
  | 0, N, _, _ => N
  | k + 1, N, n, m => qb k (N + (n + m)) (n + m + 1) m
theorem Hb.dgoF {m : Nat} {q : List Rat} (hq : Hb m q) (h0 : lc q ≠ 0) (nq : q ≠ []) : ∀ (k n N : Nat) (F R : List Rat), Hb n R → Hb N F → k + q.length ≤ R.length + 1 → Hb (qb k N n m) (Mini.dgo q k F R).1
  | 0, n, N, F, R, h, hF, _ => hF
  | k + 1, n, N, F, R, h, hF, hl => by
    have lq := List.length_pos_iff.mpr nq
    have fl := hq.fb (cf_mem (p := q) (k := q.length - 1) (by omega))
    have h1 := h.div1 (t := k + q.length - 1) hq h0 nq k (by omega)
    exact Hb.dgoF hq h0 nq k (n + m + 1) (N + (n + m)) _ _ h1 (hF.set ((h.cf (k + q.length - 1)).div fl) k) (by rw [inn_len]; omega)
theorem hb_zeros (n : Nat) : Hb 1 (List.replicate n 0) := (gd_zero 1 n (by omega)).hb (by omega) (by decide) (by decide)
theorem Hb.pquo {n m : Nat} {p q : List Rat} (hp : Hb n p) (hq : Hb m q) (h0 : lc q ≠ 0) (nq : q ≠ []) : Hb (qb (p.length + 1 - q.length) 1 n m) (Mini.pquo p q) := by
  unfold Mini.pquo pdivmod
  by_cases h : q.length ≤ p.length + 1
  · exact (Hb.dgoF hq h0 nq _ n 1 _ p hp (hb_zeros _) (by omega)).trim
  · rw [show p.length + 1 - q.length = 0 by omega]
    exact (hb_zeros 0).trim
theorem sum_gd {a b : List Rat} {da db : Nat} {n m : Nat} (h1 : 0 < da) (h2 : 0 < db) (ha : ∀ j, ∃ z : Int, cf a j = (z : Rat) / (da : Rat) ∧ z.natAbs < 2 ^ n) (hb : ∀ j, ∃ z : Int, cf b j = (z : Rat) / (db : Rat) ∧ z.natAbs < 2 ^ m) (f : Nat → Nat) :
    ∀ i : Nat, ∃ z : Int, sm (fun j => cf a j * cf b (f j)) i = (z : Rat) / ((da * db : Nat) : Rat) ∧ z.natAbs ≤ i * 2 ^ (n + m)
  | 0 => ⟨0, by
    show (0 : Rat) = _
    have := nat_neR (Nat.mul_pos h1 h2)
    have : ((0 : Int) : Rat) = 0 := rfl
    grind, by simp⟩
  | i + 1 => by
    obtain ⟨z, ez, hz⟩ := sum_gd h1 h2 ha hb f i
    obtain ⟨x, ex, hx⟩ := ha i
    obtain ⟨y, ey, hy⟩ := hb (f i)
    refine ⟨z + x * y, ?_, ?_⟩
    · show sm _ i + cf a i * cf b (f i) = _
      rw [ez, ex, ey, Rat.intCast_add, Rat.intCast_mul, Rat.natCast_mul]
      have := nat_neR h1
      have := nat_neR h2
      grind
    · have h3 := natAbs_lt_pow hx hy
      have h4 := Int.natAbs_add_le z (x * y)
      rw [Nat.add_mul, Nat.one_mul]
      omega
theorem hb_cfz {n : Nat} {p : List Rat} {d : Nat} (h0 : 0 < d) (h : ∀ q, q ∈ p → ∃ z : Int, q = (z : Rat) / (d : Rat) ∧ z.natAbs < 2 ^ n) (k : Nat) : ∃ z : Int, cf p k = (z : Rat) / (d : Rat) ∧ z.natAbs < 2 ^ n := by
  by_cases hk : k < p.length
  · exact h _ (cf_mem hk)
  · rw [cf_ge (by omega)]
    refine ⟨0, ?_, Nat.two_pow_pos n⟩
    have := nat_neR h0
    have : ((0 : Int) : Rat) = 0 := rfl
    grind
theorem mul_lt_two {a b n m : Nat} (h1 : a < 2 ^ n) (h2 : b < 2 ^ m) : a * b < 2 ^ (n + m) := by
  have := natAbs_lt_pow (t := (a : Int)) (u := (b : Int)) (n := n) (m := m) (by simpa using h1) (by simpa using h2)
  rw [Int.natAbs_mul] at this
  simpa using this
theorem Hb.sm {n m : Nat} {a b : List Rat} (ha : Hb n a) (hb : Hb m b) (f : Nat → Nat) {i : Nat} (hi : i ≤ 15) : Fb (n + m + 4) (Mini.sm (fun j => Mini.cf a j * Mini.cf b (f j)) i) := by
  obtain ⟨d, h1, h2, h3⟩ := ha
  obtain ⟨e, g1, g2, g3⟩ := hb
  obtain ⟨z, ez, hz⟩ := sum_gd h1 g1 (hb_cfz h1 h3) (hb_cfz g1 g3) f i
  have hd := mul_lt_two h2 g2
  have : i * 2 ^ (n + m) < 2 ^ (n + m + 4) := by
    rw [Nat.pow_add 2 (n + m) 4, Nat.mul_comm i]
    exact Nat.mul_lt_mul_of_pos_left (by omega) (Nat.two_pow_pos _)
  have e2 : Mini.sm (fun j => Mini.cf a j * Mini.cf b (f j)) i = Rat.divInt z ((d * e : Nat) : Int) := by rw [Rat.divInt_eq_div]; exact ez
  rw [e2]
  have hp := Nat.mul_pos h1 g1
  exact Fb.divInt (by omega) (by omega) (by
    have := Nat.pow_le_pow_right (show 0 < 2 by omega) (show n + m ≤ n + m + 4 by omega)
    rw [Int.natAbs_natCast]
    omega)
theorem Hb.tk {n : Nat} {p : List Rat} (h : Hb n p) (k : Nat) : Hb n (Mini.tk p k) := by
  obtain ⟨d, h1, h2, h3⟩ := h
  refine ⟨d, h1, h2, fun q hq => ?_⟩
  obtain ⟨k, _, rfl⟩ := List.mem_map.mp hq
  exact hb_cfz h1 h3 k
end Mini
namespace Mini
theorem sm3 {f : Nat → Rat} {n : Nat} (h : ∀ k, 3 ≤ k → f k = 0) : sm f (n + 3) = f 0 + (f 1 + f 2) := by
  rw [sm_head, sm_head, sm_head, sm_zer fun k _ => h (k + 1 + 1 + 1) (by omega)]
  show f 0 + (f 1 + (f 2 + 0)) = _
  grind
theorem tn_rec {b : List Rat} (h0 : cf b 0 ≠ 0) (h3 : ∀ k, 3 ≤ k → cf b k = 0) {m : Nat} : (0 < m → cf b 0 * cf (tnv b m) 0 = 1) ∧ (1 < m → cf b 0 * cf (tnv b m) 1 + cf b 1 * cf (tnv b m) 0 = 0) ∧ ∀ k, k + 2 < m → cf b 0 * cf (tnv b m) (k + 2) + (cf b 1 * cf (tnv b m) (k + 1) + cf b 2 * cf (tnv b m) k) = 0 := by
  refine ⟨fun hm => ?_, fun hm => ?_, fun k hk => ?_⟩
  · have := tnv_one h0 m 0 hm
    have e : sm (fun j => cf b j * cf (tnv b m) (0 - j)) (0 + 1) = 0 + cf b 0 * cf (tnv b m) 0 := rfl
    have e2 : cf [1] 0 = 1 := rfl
    rw [e, e2] at this
    grind
  · have := tnv_one h0 m 1 hm
    have e : sm (fun j => cf b j * cf (tnv b m) (1 - j)) (1 + 1) = 0 + cf b 0 * cf (tnv b m) 1 + cf b 1 * cf (tnv b m) 0 := rfl
    have e2 : cf [1] 1 = 0 := rfl
    rw [e, e2] at this
    grind
  · have := tnv_one h0 m (k + 2) hk
    rw [show k + 2 + 1 = k + 3 from rfl, sm3 fun j hj => by rw [h3 j hj]; grind] at this
    have e2 : cf [1] (k + 2) = 0 := rfl
    rw [e2] at this
    exact this
theorem pow_abs (z : Int) : ∀ k : Nat, (z ^ k).natAbs = z.natAbs ^ k
  | 0 => by rw [Int.pow_zero, Nat.pow_zero]; rfl
  | k + 1 => by rw [Int.pow_succ, Int.natAbs_mul, pow_abs z k, Nat.pow_succ]
theorem intR_pow (z : Int) : ∀ k : Nat, ((z ^ k : Int) : Rat) = (z : Rat) ^ k
  | 0 => by rw [Rat.pow_zero, Int.pow_zero]; rfl
  | k + 1 => by rw [Int.pow_succ, Rat.intCast_mul, intR_pow z k, Rat.pow_succ]
theorem tn_num {b : List Rat} {n : Nat} {d : Nat} {z0 z1 z2 : Int} (hd : 0 < d) (e0 : cf b 0 = (z0 : Rat) / (d : Rat)) (e1 : cf b 1 = (z1 : Rat) / (d : Rat)) (e2 : cf b 2 = (z2 : Rat) / (d : Rat)) (l0 : z0.natAbs < 2 ^ n) (l1 : z1.natAbs < 2 ^ n) (l2 : z2.natAbs < 2 ^ n) (h0 : cf b 0 ≠ 0) (h3 : ∀ k, 3 ≤ k → cf b k = 0) {m : Nat} : ∀ k,
    (k < m → ∃ V : Int, cf (tnv b m) k * (z0 : Rat) ^ (k + 1) = (V : Rat) * (d : Rat) ∧ V.natAbs ≤ 2 ^ ((n + 1) * k)) ∧ (k + 1 < m → ∃ V : Int, cf (tnv b m) (k + 1) * (z0 : Rat) ^ (k + 1 + 1) = (V : Rat) * (d : Rat) ∧ V.natAbs ≤ 2 ^ ((n + 1) * (k + 1)))
  | 0 => by
    have nd := nat_neR hd
    obtain ⟨r0, r1, _⟩ := tn_rec h0 h3 (m := m)
    have p1 : (z0 : Rat) ^ (0 + 1) = (z0 : Rat) := by rw [Rat.pow_succ, Rat.pow_zero]; grind
    have p2 : (z0 : Rat) ^ (0 + 1 + 1) = (z0 : Rat) * (z0 : Rat) := by rw [Rat.pow_succ, p1]
    refine ⟨fun h => ⟨1, ?_, by simp⟩, fun h => ⟨-z1, ?_, ?_⟩⟩
    · have := r0 h
      rw [e0] at this
      rw [p1]
      have : ((1 : Int) : Rat) = 1 := rfl
      grind
    · have a1 := r0 (by omega)
      have a2 := r1 h
      rw [e0] at a1 a2
      rw [e1] at a2
      rw [p2, Rat.intCast_neg]
      generalize cf (tnv b m) (0 + 1) = v1 at *
      generalize cf (tnv b m) 1 = v1' at *
      generalize cf (tnv b m) 0 = v0 at *
      grind
    · rw [Int.natAbs_neg]
      have := Nat.pow_le_pow_right (show 0 < 2 by omega) (show n ≤ (n + 1) * (0 + 1) by omega)
      omega
  | k + 1 => by
    obtain ⟨i1, i2⟩ := tn_num hd e0 e1 e2 l0 l1 l2 h0 h3 (m := m) k
    refine ⟨i2, fun h => ?_⟩
    obtain ⟨V, eV, lV⟩ := i1 (by omega)
    obtain ⟨W, eW, lW⟩ := i2 (by omega)
    obtain ⟨_, _, r2⟩ := tn_rec h0 h3 (m := m)
    have r := r2 k (by omega)
    refine ⟨-(z1 * W + z2 * z0 * V), ?_, ?_⟩
    · rw [e0, e1, e2] at r
      have nd := nat_neR hd
      rw [Rat.intCast_neg, Rat.intCast_add, Rat.intCast_mul, Rat.intCast_mul, Rat.intCast_mul]
      rw [show k + 1 + 1 + 1 = (k + 1 + 1) + 1 from rfl, Rat.pow_succ]
      rw [Rat.pow_succ _ (k + 1)] at eW ⊢
      rw [show k + 1 + 1 = k + 2 from rfl]
      generalize (z0 : Rat) ^ (k + 1) = Z at *
      generalize cf (tnv b m) (k + 2) = v2 at *
      generalize cf (tnv b m) (k + 1) = v1 at *
      generalize cf (tnv b m) k = v0 at *
      have r' : (z0 : Rat) * v2 + ((z1 : Rat) * v1 + (z2 : Rat) * v0) = 0 := by grind
      have h1 : v2 * (Z * (z0 : Rat) * (z0 : Rat)) = -((z1 : Rat) * (v1 * (Z * (z0 : Rat))) + (z2 : Rat) * (z0 : Rat) * (v0 * Z)) := by grind
      rw [h1, eW, eV]
      grind
    · rw [Int.natAbs_neg]
      have a1 := Int.natAbs_add_le (z1 * W) (z2 * z0 * V)
      rw [Int.natAbs_mul, Int.natAbs_mul, Int.natAbs_mul] at a1
      have b1 : z1.natAbs * W.natAbs ≤ 2 ^ n * 2 ^ ((n + 1) * (k + 1)) := Nat.mul_le_mul (by omega) lW
      have b2 : z2.natAbs * z0.natAbs * V.natAbs ≤ 2 ^ n * 2 ^ n * 2 ^ ((n + 1) * k) := Nat.mul_le_mul (Nat.mul_le_mul (by omega) (by omega)) lV
      have c1 : 2 ^ ((n + 1) * (k + 1)) = 2 ^ ((n + 1) * k) * (2 ^ n * 2) := by rw [Nat.mul_add, Nat.mul_one, Nat.pow_add, Nat.pow_succ]
      have c2 : 2 ^ ((n + 1) * (k + 1 + 1)) = 2 ^ ((n + 1) * k) * (2 ^ n * 2) * (2 ^ n * 2) := by rw [Nat.mul_add, Nat.mul_one, Nat.pow_add, c1, Nat.pow_succ]
      rw [c1] at b1
      rw [c2]
      generalize 2 ^ ((n + 1) * k) = P at *
      generalize 2 ^ n = N at *
      have d1 : N * (P * (N * 2)) = 2 * (P * N * N) := by grind
      have d2 : N * N * P = P * N * N := by grind
      have d3 : P * (N * 2) * (N * 2) = 4 * (P * N * N) := by grind
      rw [d1] at b1
      rw [d2] at b2
      rw [d3]
      omega
theorem Hb.tnv {n : Nat} {b : List Rat} (h : Hb n b) (h0 : Mini.cf b 0 ≠ 0) (h3 : ∀ k, 3 ≤ k → Mini.cf b k = 0) : Hb (8 * n + 8) (Mini.tnv b 8) := by
  obtain ⟨d, h1, h2, hb⟩ := h
  obtain ⟨z0, e0, l0⟩ := hb_cfz h1 hb 0
  obtain ⟨z1, e1, l1⟩ := hb_cfz h1 hb 1
  obtain ⟨z2, e2, l2⟩ := hb_cfz h1 hb 2
  have nd := nat_neR h1
  have z00 : z0 ≠ 0 := fun z => h0 (by
    rw [e0, z]
    have : ((0 : Int) : Rat) = 0 := rfl
    rw [this]; grind)
  have zR : (z0 : Rat) ≠ 0 := fun z => z00 (by
    have : (z0 : Rat) = ((0 : Int) : Rat) := z
    exact Rat.intCast_inj.mp this)
  have pp : 0 < z0.natAbs := Int.natAbs_pos.mpr z00
  have q8 : ((z0.natAbs ^ 8 : Nat) : Rat) = (z0 : Rat) ^ 8 := by
    have a1 : ((z0 ^ 8 : Int)) = ((z0.natAbs ^ 8 : Nat) : Int) := by
      have : (0 : Int) ≤ z0 ^ 8 := by
        have e : z0 ^ 8 = (z0 ^ 4) * (z0 ^ 4) := by rw [← Int.pow_add]
        rw [e, ← Int.natAbs_mul_self]; exact Int.natCast_nonneg _
      rw [← pow_abs]
      omega
    rw [← intR_pow, a1]; rfl
  have up : ∀ {x y : Nat}, x ≤ y → 2 ^ x ≤ 2 ^ y := fun h => Nat.pow_le_pow_right (by omega) h
  refine ⟨z0.natAbs ^ 8, Nat.pow_pos pp, ?_, fun q hq => ?_⟩
  · have : z0.natAbs ^ 8 ≤ (2 ^ n) ^ 8 := Nat.pow_le_pow_left (by omega) 8
    rw [← Nat.pow_mul] at this
    have := Nat.pow_lt_pow_right (show 1 < 2 by omega) (show n * 8 < 8 * n + 8 by omega)
    omega
  · obtain ⟨k, hk, rfl⟩ := mem_cf hq
    rw [tnv_len] at hk
    obtain ⟨V, eV, lV⟩ := (tn_num h1 e0 e1 e2 l0 l1 l2 h0 h3 (m := 8) k).1 hk
    refine ⟨V * (d : Nat) * z0 ^ (7 - k), ?_, ?_⟩
    · rw [q8, Rat.intCast_mul, Rat.intCast_mul, intR_pow]
      have e8 : (z0 : Rat) ^ 8 = (z0 : Rat) ^ (k + 1) * (z0 : Rat) ^ (7 - k) := by
        rw [← intR_pow, ← intR_pow, ← intR_pow, ← Rat.intCast_mul, ← Int.pow_add, show k + 1 + (7 - k) = 8 by omega]
      have hne : (z0 : Rat) ^ (7 - k) ≠ 0 := fun z => by
        have : (z0 : Rat) ^ 8 = 0 := by rw [e8, z]; grind
        rw [← q8] at this
        exact nat_neR (Nat.pow_pos pp) this
      have hne2 : (z0 : Rat) ^ (k + 1) ≠ 0 := fun z => by
        have : (z0 : Rat) ^ 8 = 0 := by rw [e8, z]; grind
        rw [← q8] at this
        exact nat_neR (Nat.pow_pos pp) this
      rw [e8]
      have : (((d : Nat) : Int) : Rat) = (d : Rat) := rfl
      rw [this, ← eV]
      generalize (z0 : Rat) ^ (7 - k) = A at *
      generalize (z0 : Rat) ^ (k + 1) = B at *
      have hBA : B * A ≠ 0 := fun z => (Rat.mul_eq_zero.mp z).elim hne2 hne
      have hi := Rat.mul_inv_cancel (B * A) hBA
      rw [Rat.div_def]
      generalize (B * A)⁻¹ = I at *
      have : Mini.cf (Mini.tnv b 8) k * B * A * I = Mini.cf (Mini.tnv b 8) k * (B * A * I) := by grind
      rw [this, hi]
      grind
    · rw [Int.natAbs_mul, Int.natAbs_mul, pow_abs, Int.natAbs_natCast]
      have a1 : z0.natAbs ^ (7 - k) ≤ 2 ^ (n * (7 - k)) := by
        rw [Nat.pow_mul]
        exact Nat.pow_le_pow_left (by omega) _
      have a2 : V.natAbs * d ≤ 2 ^ ((n + 1) * k) * 2 ^ n := Nat.mul_le_mul lV (by omega)
      have a3 := Nat.mul_le_mul a2 a1
      rw [← Nat.pow_add, ← Nat.pow_add] at a3
      refine Nat.lt_of_le_of_lt a3 (Nat.pow_lt_pow_right (by omega) ?_)
      have : k ≤ 7 := by omega
      have e : n * (7 - k) + n * k = 7 * n := by rw [← Nat.mul_add, show 7 - k + k = 7 by omega, Nat.mul_comm]
      rw [Nat.add_mul, Nat.one_mul]
      omega
end Mini
namespace Mini
structure Fin24 (p q s r t : List Rat) : Prop where
  cg : Cg 8 (pmul t s) r
  lr : r.length ≤ 3
  lt : t.length ≤ q.length
  t0 : cf t 0 ≠ 0
  tr : Tr r
  tt : Tr t
  det : ∃ r' t' σ, σ ≠ 0 ∧ ∀ x, ev r x * ev t' x - ev r' x * ev t x = σ * x ^ 8
  nil : r = [] → t = [1]
  hr : Hb 283 r
  ht : Hb 628 t
  hb : Hb 55 (pscal t (1 / cf t 0))
def x8 : List Rat := sft 8 [1]
end Mini
namespace Mini
def R2 (s : List Rat) : List Rat := prem x8 (trim s)
def R3 (s : List Rat) : List Rat := prem (trim s) (R2 s)
end Mini
namespace Mini
end Mini
namespace Mini
def gcdP : Nat → List Rat → List Rat → List Rat
  | 0, p, _ => p
  | n + 1, p, q => if q = [] then p else gcdP n q (prem p q)
theorem gcdP_tr : ∀ (n : Nat) (p q : List Rat), Tr p → Tr q → Tr (gcdP n p q)
  | 0, p, q, hp, _ => hp
  | n + 1, p, q, hp, hq => by
    unfold gcdP
    split
    · exact hp
    · exact gcdP_tr n q _ hq (prem_tr _ _)
theorem gcdP_dvd : ∀ (n : Nat) (p q : List Rat), Tr q → q.length ≤ n → (∃ u, ∀ x, ev p x = ev (gcdP n p q) x * ev u x) ∧ ∃ v, ∀ x, ev q x = ev (gcdP n p q) x * ev v x
  | 0, p, q, hq, h => by
    rw [List.length_eq_zero_iff.mp (by omega : q.length = 0)]
    exact ⟨⟨[1], fun x => by rw [ev_one]; show _ = ev p x * 1; grind⟩, [], fun x => by rw [evq_nil]; grind⟩
  | n + 1, p, q, hq, h => by
    unfold gcdP
    split
    · rename_i z
      rw [z]
      exact ⟨⟨[1], fun x => by rw [ev_one]; grind⟩, [], fun x => by rw [evq_nil]; grind⟩
    · rename_i z
      have := rem_len (p := p) z (tr_lc hq z)
      obtain ⟨⟨u, hu⟩, v, hv⟩ := gcdP_dvd n q (prem p q) (prem_tr _ _) (by omega)
      refine ⟨⟨padd (pmul (pquo p q) u) v, fun x => ?_⟩, u, hu⟩
      rw [evq_padd, evq_pmul, ← div_ev (p := p) z x, hu x, hv x]
      grind
def okd : Nat → Nat → Nat → Nat → Nat → Bool
  | 0, _, n, _, _ => decide (n ≤ 4000)
  | f + 1, lp, n, lq, m => if lq = 0 then decide (n ≤ 4000) else (if lq = 1 then decide (n + m ≤ 4400) else decide (n + (lp + 1 - lq) * (m + 1) + 2 * m + 1 ≤ 4400)) && (List.range lq).all fun l => okd f lq m l (if lq = 1 then 1 else n + (lp + 1 - lq) * (m + 1))
theorem prem_const {p : List Rat} {d : Rat} (h : d ≠ 0) : prem p [d] = [] := by
  have := rem_len (p := p) (q := [d]) (by simp) (show lc [d] ≠ 0 from h)
  exact List.length_eq_zero_iff.mp (by simpa using this)
theorem inn_const {R : List Rat} {d : Rat} (h : d ≠ 0) (i : Nat) : inn (-(cf R i / d)) i [d] R = R.set i 0 := by
  show addAt R i (-(cf R i / d) * d) = _
  unfold addAt
  congr 1
  grind
theorem Fin24.one {p q s r t : List Rat} (F : Fin24 p q s r t) (n : Nat) (hn : t.length ≤ n) : ∃ c, c ≠ 0 ∧ gcdP n r t = [c] := by
  obtain ⟨⟨u, hu⟩, v, hv⟩ := gcdP_dvd n r t F.tt hn
  have hg := gcdP_tr n r t F.tr F.tt
  obtain ⟨r', t', σ, hσ, hd⟩ := F.det
  generalize gcdP n r t = g at *
  have g0 : cf g 0 ≠ 0 := fun z => F.t0 (by
    rw [← evq_zero, hv 0, evq_zero g, z]; grind)
  have l := unit_len (u := psub (pmul u t') (pmul r' v)) hg g0 hσ fun x => by
    rw [evq_psub, evq_pmul, evq_pmul, ← hd x, hu x, hv x]; grind
  obtain ⟨c, rfl⟩ := List.length_eq_one_iff.mp l
  exact ⟨c, g0, rfl⟩
theorem Fin24.rb {p q s r t : List Rat} (F : Fin24 p q s r t) (hs : Hb 55 s) (ls : s.length = 8) (lq : q.length ≤ 3) : Hb 115 (pscal r (1 / cf t 0)) := by
  have l1 := pscal_len t (1 / cf t 0)
  have l2 := pscal_len r (1 / cf t 0)
  have h := F.hb.pmul hs (c := 5) (Nat.le_trans (Nat.mul_le_mul (show _ ≤ 3 from Nat.le_trans l1 (Nat.le_trans F.lt lq)) (Nat.le_of_eq ls)) (by decide))
  refine h.zero.sub fun a ha => ?_
  obtain ⟨k, hk, e⟩ := mem_cf ha
  have lr := F.lr
  have : cf (pscal r (1 / cf t 0)) k = cf (pmul (pscal t (1 / cf t 0)) s) k := by
    refine (Cg.cf (n := 8) ?_ (by omega)).symm
    obtain ⟨u, hu⟩ := F.cg
    refine ⟨pscal u (1 / cf t 0), fun x => ?_⟩
    have := hu x
    rw [evq_pmul] at this
    rw [evq_pmul, evq_pscal, evq_pscal, evq_pscal]
    generalize 1 / cf t 0 = c at *
    have e : ev t x * c * ev s x = (ev t x * ev s x) * c := by grind
    rw [e, this]
    grind
  rw [e, this]
  exact cf_mem0 _ k
end Mini
namespace Mini
structure Bm where
  C : List Rat
  B : List Rat
  L : Nat
  m : Nat
  b : Rat
def upd (C B : List Rat) (m : Nat) (c : Rat) : List Rat := inn (-c) m B (C ++ List.replicate (B.length + m - C.length) 0)
def wrong (r C : List Rat) (L n : Nat) : Rat := cf r n + sm (fun k => cf C (k + 1) * cf r (n - (k + 1))) L
def bstep (r : List Rat) (n : Nat) (s : Bm) : Bm :=
  let d := wrong r s.C s.L n
  if d = 0 then { s with m := s.m + 1 }
  else if 2 * s.L ≤ n then ⟨upd s.C s.B s.m (d / s.b), s.C, n + 1 - s.L, 1, d⟩
  else { s with C := upd s.C s.B s.m (d / s.b), m := s.m + 1 }
def bm (r : List Rat) : Nat → Bm
  | 0 => ⟨[1], [1], 0, 1, 1⟩
  | n + 1 => bstep r n (bm r n)
structure Inv (r : List Rat) (n : Nat) (s : Bm) : Prop where
  lC : s.C.length ≤ s.L + 1
  c0 : cf s.C 0 = 1
  lL : s.L ≤ n
  gC : ∃ P : List Rat, P.length ≤ s.L ∧ Cg n (pmul s.C r) P
  lB : s.B.length + s.m + s.L ≤ n + 2
  b0 : s.b ≠ 0
  m1 : 1 ≤ s.m
  gB : ∃ P : List Rat, P.length + s.L ≤ n + 1 ∧ Cg (n + 1) (pmul (sft s.m s.B) r) (padd P (sft n [s.b]))
theorem Cg.add {n : Nat} {p q r s : List Rat} (h : Cg n p q) (h2 : Cg n r s) : Cg n (padd p r) (padd q s) := cg_cf fun k hk => by
  rw [cf_padd, cf_padd, h.cf hk, h2.cf hk]
end Mini
namespace Mini
def Hc (n : Nat) (p : List Rat) : Prop := ∃ d : Nat, 0 < d ∧ d ≤ 2 ^ n ∧ ∀ q, q ∈ p → ∃ z : Int, q = (z : Rat) / (d : Rat) ∧ z.natAbs ≤ 2 ^ n
def Fc (n : Nat) (q : Rat) : Prop := q.num.natAbs ≤ 2 ^ n ∧ q.den ≤ 2 ^ n
theorem Fc.fb {n : Nat} {q : Rat} (h : Fc n q) : Fb (n + 1) q := by
  have := Nat.pow_lt_pow_right (show 1 < 2 by omega) (Nat.lt_succ_self n)
  exact ⟨Nat.lt_of_le_of_lt h.1 this, Nat.lt_of_le_of_lt h.2 this⟩
theorem Hc.hb {n : Nat} {p : List Rat} (h : Hc n p) : Hb (n + 1) p := by
  have := Nat.pow_lt_pow_right (show 1 < 2 by omega) (Nat.lt_succ_self n)
  obtain ⟨d, h1, h2, h3⟩ := h
  exact ⟨d, h1, Nat.lt_of_le_of_lt h2 this, fun q hq => by
    obtain ⟨z, e, hz⟩ := h3 q hq
    exact ⟨z, e, Nat.lt_of_le_of_lt hz this⟩⟩
theorem fc_div {n : Nat} {z : Int} {d : Nat} (h : 0 < d) (h1 : z.natAbs ≤ 2 ^ n) (h2 : d ≤ 2 ^ n) : Fc n ((z : Rat) / (d : Rat)) := by
  have e : (z : Rat) / (d : Rat) = Rat.divInt z (d : Int) := by rw [Rat.divInt_eq_div]; rfl
  rw [e]
  have a := divInt_top (t := z) (b := (d : Int))
  have b := divInt_bot (t := z) (b := (d : Int)) (by omega)
  rw [Int.natAbs_natCast] at b
  exact ⟨Nat.le_trans a h1, Nat.le_trans b h2⟩
theorem hc_cfz {n : Nat} {p : List Rat} {d : Nat} (h0 : 0 < d) (h : ∀ q, q ∈ p → ∃ z : Int, q = (z : Rat) / (d : Rat) ∧ z.natAbs ≤ 2 ^ n) (k : Nat) : ∃ z : Int, cf p k = (z : Rat) / (d : Rat) ∧ z.natAbs ≤ 2 ^ n := by
  by_cases hk : k < p.length
  · exact h _ (cf_mem hk)
  · rw [cf_ge (by omega)]
    refine ⟨0, ?_, Nat.zero_le _⟩
    have := nat_neR h0
    have : ((0 : Int) : Rat) = 0 := rfl
    grind
theorem sum_gc {a b : List Rat} {da db : Nat} {n m : Nat} (h1 : 0 < da) (h2 : 0 < db) (ha : ∀ j, ∃ z : Int, cf a j = (z : Rat) / (da : Rat) ∧ z.natAbs ≤ 2 ^ n) (hb : ∀ j, ∃ z : Int, cf b j = (z : Rat) / (db : Rat) ∧ z.natAbs ≤ 2 ^ m) (f : Nat → Nat) :
    ∀ i : Nat, ∃ z : Int, sm (fun j => cf a j * cf b (f j)) i = (z : Rat) / ((da * db : Nat) : Rat) ∧ z.natAbs ≤ i * 2 ^ (n + m)
  | 0 => ⟨0, by
    show (0 : Rat) = _
    have := nat_neR (Nat.mul_pos h1 h2)
    have : ((0 : Int) : Rat) = 0 := rfl
    grind, by simp⟩
  | i + 1 => by
    obtain ⟨z, ez, hz⟩ := sum_gc h1 h2 ha hb f i
    obtain ⟨x, ex, hx⟩ := ha i
    obtain ⟨y, ey, hy⟩ := hb (f i)
    refine ⟨z + x * y, ?_, ?_⟩
    · show sm _ i + cf a i * cf b (f i) = _
      rw [ez, ex, ey, Rat.intCast_add, Rat.intCast_mul, Rat.natCast_mul]
      have := nat_neR h1
      have := nat_neR h2
      grind
    · have h3 := Nat.mul_le_mul hx hy
      rw [← Nat.pow_add] at h3
      have h4 := Int.natAbs_add_le z (x * y)
      rw [Int.natAbs_mul] at h4
      rw [Nat.add_mul, Nat.one_mul]
      omega
def lg (k : Nat) : Nat := if k ≤ 1 then 0 else if k ≤ 2 then 1 else if k ≤ 4 then 2 else 3
theorem lg_le {k : Nat} (h : k ≤ 8) : k ≤ 2 ^ lg k := by
  unfold lg
  split
  · omega
  · split
    · omega
    · split <;> omega
theorem Hc.sm {n m : Nat} {a b : List Rat} (ha : Hc n a) (hb : Hc m b) (f : Nat → Nat) {i : Nat} (hi : i ≤ 8) : Fc (n + m + lg i) (Mini.sm (fun j => Mini.cf a j * Mini.cf b (f j)) i) := by
  obtain ⟨d, h1, h2, h3⟩ := ha
  obtain ⟨e, g1, g2, g3⟩ := hb
  obtain ⟨z, ez, hz⟩ := sum_gc h1 g1 (hc_cfz h1 h3) (hc_cfz g1 g3) f i
  rw [ez]
  refine fc_div (Nat.mul_pos h1 g1) ?_ ?_
  · refine Nat.le_trans hz ?_
    rw [Nat.pow_add 2 (n + m), Nat.mul_comm i]
    exact Nat.mul_le_mul_left _ (lg_le hi)
  · refine Nat.le_trans (Nat.mul_le_mul h2 g2) ?_
    rw [← Nat.pow_add]
    exact Nat.pow_le_pow_right (by omega) (by omega)
end Mini
namespace Mini
def bmok (ρ M : Nat) : Nat → Nat → Nat → Nat → Nat → Nat → Bool
  | 0, _, L, a, _, _ => decide (a ≤ 4000)
  | k + 1, n, L, a, e, f => decide (a + e + f + 2 * ρ + 10 ≤ 4300 ∧ L ≤ 7) && bmok ρ M k (n + 1) L a e f && (decide (M + L < n + 1) || (if 2 * L ≤ n then bmok ρ M k (n + 1) (n + 1 - L) (a + f + e + ρ + lg (L + 1) + 1) a (a + ρ + lg (L + 1)) else bmok ρ M k (n + 1) L (a + f + e + ρ + lg (L + 1) + 1) e f))
theorem cf_take {p : List Rat} {n k : Nat} (h : k < n) : cf (p.take n) k = cf p k := by
  unfold cf
  rw [List.getD_eq_getElem?_getD, List.getD_eq_getElem?_getD, List.getElem?_take, if_pos h]
def rowN (rule : List Rat) (f : List Rat) : Nat → List Rat
  | 0 => f
  | m + 1 => let p := rowN rule f m
    p ++ [sm (fun k => cf rule k * cf p (p.length - 1 - k)) rule.length]
theorem rowN_len (rule f : List Rat) : ∀ m, (rowN rule f m).length = f.length + m
  | 0 => rfl
  | m + 1 => by
    show (rowN rule f m ++ _).length = _
    rw [List.length_append, rowN_len rule f m]; rfl
theorem rowN_eq {rule s : List Rat} {L : Nat} (hL : rule.length = L) : ∀ (m : Nat), L + m ≤ s.length → (∀ n, L ≤ n → n < L + m → cf s n = sm (fun k => cf rule k * cf s (n - 1 - k)) L) → 0 < L → rowN rule (s.take L) m = s.take (L + m)
  | 0, _, _, _ => rfl
  | m + 1, hl, h, h0 => by
    have ih := rowN_eq hL m (by omega) (fun n h1 h2 => h n h1 (by omega)) h0
    show rowN rule (s.take L) m ++ [sm (fun k => cf rule k * cf (rowN rule (s.take L) m) ((rowN rule (s.take L) m).length - 1 - k)) rule.length] = _
    have hlen : (s.take (L + m)).length = L + m := by simp; omega
    rw [ih, hlen, hL, sm_congr (g := fun k => cf rule k * cf s (L + m - 1 - k)) fun k hk => by rw [cf_take (by omega)], ← h (L + m) (by omega) (by omega)]
    have : s.take (L + (m + 1)) = s.take (L + m) ++ [cf s (L + m)] := by
      rw [show L + (m + 1) = L + m + 1 by omega, List.take_succ, cf_getElem (by omega)]
      rfl
    rw [this]
end Mini
namespace Mini
theorem bm33s : ∀ M : Fin 5, bmok 21 M.val (2 * M.val) 0 0 0 0 0 = true := by decide +kernel
end Mini
namespace Mini
theorem rowN_rec {rule f : List Rat} (hl : rule.length ≤ f.length) : ∀ (m n : Nat), f.length ≤ n → n < f.length + m → cf (rowN rule f m) n = sm (fun k => cf rule k * cf (rowN rule f m) (n - 1 - k)) rule.length
  | 0, n, h1, h2 => by omega
  | m + 1, n, h1, h2 => by
    have lm := rowN_len rule f m
    have pre : ∀ j, j < f.length + m → cf (rowN rule f (m + 1)) j = cf (rowN rule f m) j := fun j hj => by
      show cf (rowN rule f m ++ _) j = _
      exact cf_left (by omega)
    by_cases h : n < f.length + m
    · rw [pre n h, rowN_rec hl m n h1 h]
      exact sm_congr fun k hk => by rw [pre _ (by omega)]
    · obtain rfl : n = f.length + m := by omega
      have e : cf (rowN rule f (m + 1)) (f.length + m) = sm (fun k => cf rule k * cf (rowN rule f m) ((rowN rule f m).length - 1 - k)) rule.length := by
        show cf (rowN rule f m ++ [_]) (f.length + m) = _
        rw [← lm]
        exact cf_end _ _
      rw [e, lm]
      exact sm_congr fun k hk => by rw [pre _ (by omega)]
theorem rowN_cf_first {rule f : List Rat} : ∀ (m k : Nat), k < f.length → cf (rowN rule f m) k = cf f k
  | 0, k, h => rfl
  | m + 1, k, h => by
    show cf (rowN rule f m ++ _) k = _
    rw [cf_left (by rw [rowN_len]; omega), rowN_cf_first m k h]
def dOf (rule : List Rat) : List Rat := 1 :: rule.map fun a => -a
theorem dOf_cf (rule : List Rat) (k : Nat) : cf (dOf rule) (k + 1) = -cf rule k := by
  show cf (rule.map fun a => -a) k = _
  by_cases h : k < rule.length
  · unfold cf
    rw [List.getD_eq_getElem?_getD, List.getD_eq_getElem?_getD, List.getElem?_map, List.getElem?_eq_getElem h]
    rfl
  · rw [cf_ge (by simp; omega), cf_ge (by omega)]; grind
theorem rec_cg {rule s : List Rat} {L T : Nat} (hL : rule.length ≤ L) (h : ∀ n, L ≤ n → n < T → cf s n = sm (fun k => cf rule k * cf s (n - 1 - k)) rule.length) : Cg T (pmul (dOf rule) s) (tk (pmul (dOf rule) s) L) := cg_cf fun n hn => by
  by_cases h1 : n < L
  · rw [cf_tk h1]
  · rw [cf_ge (p := tk _ L) (by rw [tk_len]; omega), cf_pmul, sm_head]
    have e1 : cf (dOf rule) 0 = 1 := rfl
    rw [e1, sm_congr (f := fun k => cf (dOf rule) (k + 1) * cf s (n - (k + 1))) (g := fun k => -1 * (cf rule k * cf s (n - 1 - k))) fun k hk => by rw [dOf_cf, show n - (k + 1) = n - 1 - k by omega]; grind,
      sm_zero (f := fun k => -1 * (cf rule k * cf s (n - 1 - k))) (n := rule.length) (m := n) (fun k hk => by rw [cf_ge hk]; grind) (by omega), sm_mul, Nat.sub_zero, h n (by omega) hn]
    grind
end Mini
namespace Mini
def Rec (rule s : List Rat) (T : Nat) : Prop := ∀ n, rule.length ≤ n → n < T → cf s n = sm (fun k => cf rule k * cf s (n - 1 - k)) rule.length
theorem Rec.one {a : Rat} {s : List Rat} {T : Nat} (h : Rec [a] s T) {n : Nat} (hn : n + 1 < T) : cf s (n + 1) = a * cf s n := by
  have e : cf s (n + 1) = 0 + a * cf s (n + 1 - 1 - 0) := h (n + 1) (by simp) hn
  rw [show n + 1 - 1 - 0 = n by omega] at e
  grind
theorem Rec.two {a b : Rat} {s : List Rat} {T : Nat} (h : Rec [a, b] s T) {n : Nat} (hn : n + 2 < T) : cf s (n + 2) = a * cf s (n + 1) + b * cf s n := by
  have e : cf s (n + 2) = 0 + a * cf s (n + 2 - 1 - 0) + b * cf s (n + 2 - 1 - 1) := h (n + 2) (by simp) hn
  rw [show n + 2 - 1 - 0 = n + 1 by omega, show n + 2 - 1 - 1 = n by omega] at e
  grind
theorem len12 {r : List Rat} (h : r.length = 1 ∨ r.length = 2) : (∃ a, r = [a]) ∨ ∃ a b, r = [a, b] := by
  rcases r with _ | ⟨a, _ | ⟨b, _ | ⟨c, r⟩⟩⟩
  · simp at h
  · exact .inl ⟨a, rfl⟩
  · exact .inr ⟨a, b, rfl⟩
  · simp at h
theorem Rec.cg {R s : List Rat} {T : Nat} (h : Rec R s T) : Cg T (pmul (dOf R) s) (tk (pmul (dOf R) s) R.length) := rec_cg (Nat.le_refl _) h
theorem rowN_Rec {rule f : List Rat} (hl : rule.length = f.length) (m : Nat) : Rec rule (rowN rule f m) (f.length + m) := fun n h1 h2 => rowN_rec (Nat.le_of_eq hl) m n (by omega) h2
end Mini
namespace Mini
end Mini
namespace Mini
def bnd (c : Nat) : Nat → Nat
  | 0 => 2
  | 1 => c
  | n + 2 => 2 * bnd c (n + 1) + 2 * bnd c n
def Zb (B : Nat) (q : Rat) : Prop := ∃ z : Int, q = (z : Rat) ∧ z.natAbs ≤ B
theorem Zb.zero (B : Nat) : Zb B 0 := ⟨0, rfl, Nat.zero_le _⟩
theorem Zb.mono {B B' : Nat} {q : Rat} (h : Zb B q) (l : B ≤ B') : Zb B' q := by
  obtain ⟨z, e, hz⟩ := h
  exact ⟨z, e, by omega⟩
theorem Zb.add {A B : Nat} {p q : Rat} (hp : Zb A p) (hq : Zb B q) : Zb (A + B) (p + q) := by
  obtain ⟨z, ez, hz⟩ := hp
  obtain ⟨y, ey, hy⟩ := hq
  exact ⟨z + y, by rw [ez, ey, Rat.intCast_add], by omega⟩
theorem Zb.mul {A B : Nat} {p q : Rat} (hp : Zb A p) (hq : Zb B q) : Zb (A * B) (p * q) := by
  obtain ⟨z, ez, hz⟩ := hp
  obtain ⟨y, ey, hy⟩ := hq
  exact ⟨z * y, by rw [ez, ey, Rat.intCast_mul], by rw [Int.natAbs_mul]; exact Nat.mul_le_mul hz hy⟩
theorem Zb.sm {f : Nat → Rat} {B : Nat} : ∀ {n : Nat}, (∀ k, k < n → Zb B (f k)) → Zb (n * B) (Mini.sm f n)
  | 0, _ => Zb.zero _
  | n + 1, h => by
    have a := Zb.sm (n := n) fun k hk => h k (by omega)
    have b := h n (by omega)
    rw [Nat.add_mul, Nat.one_mul]
    exact a.add b
theorem rec_bnd {c : Nat} {r s : List Rat} {T : Nat} (hl : r.length = 1 ∨ r.length = 2) (hr : ∀ k, Zb 2 (cf r k)) (hR : Rec r s T) (h0 : Zb 2 (cf s 0)) (h1 : 1 < T → Zb c (cf s 1)) : ∀ n, (n < T → Zb (bnd c n) (cf s n)) ∧ (n + 1 < T → Zb (bnd c (n + 1)) (cf s (n + 1)))
  | 0 => ⟨fun _ => h0, h1⟩
  | n + 1 => by
    obtain ⟨i1, i2⟩ := rec_bnd hl hr hR h0 h1 n
    refine ⟨i2, fun h => ?_⟩
    rcases len12 hl with ⟨a, rfl⟩ | ⟨a, b, rfl⟩
    · rw [hR.one h]
      exact ((hr 0).mul (i2 (by omega))).mono (by show 2 * bnd c (n + 1) ≤ 2 * bnd c (n + 1) + 2 * bnd c n; omega)
    · rw [show n + 1 + 1 = n + 2 from rfl, hR.two h]
      exact ((hr 0).mul (i2 (by omega))).add ((hr 1).mul (i1 (by omega)))
theorem Zb.hc {B n : Nat} {p : List Rat} (h : ∀ q, q ∈ p → Zb B q) (hB : B ≤ 2 ^ n) : Hc n p := ⟨1, by omega, Nat.one_le_two_pow, fun q hq => by
  obtain ⟨z, e, hz⟩ := h q hq
  refine ⟨z, ?_, by omega⟩
  rw [e]
  have : ((1 : Nat) : Rat) = 1 := rfl
  rw [this]
  grind⟩
end Mini
namespace Mini
structure Rwl (r f u : List Rat) : Prop where
  l12 : r.length = 1 ∨ r.length = 2
  lf : r.length = f.length
  zr : ∀ q, q ∈ r → Zb 2 q
  zf : ∀ q, q ∈ f → Zb 2 q
  row : u = rowN r f (40 - r.length)
theorem bnd_3 : ∀ n, bnd 4 n ≤ 2 * 3 ^ n ∧ bnd 4 (n + 1) ≤ 2 * 3 ^ (n + 1)
  | 0 => ⟨by decide, by decide⟩
  | n + 1 => by
    obtain ⟨h1, h2⟩ := bnd_3 n
    refine ⟨h2, ?_⟩
    show 2 * bnd 4 (n + 1) + 2 * bnd 4 n ≤ _
    rw [Nat.pow_succ] at h2 ⊢
    rw [Nat.pow_succ]
    omega
theorem cf_all {P : Rat → Prop} {p : List Rat} (h0 : P 0) (h : ∀ q, q ∈ p → P q) (k : Nat) : P (cf p k) := (List.mem_cons.mp (cf_mem0 p k)).elim (fun z => by rw [z]; exact h0) (h _)
theorem Rwl.lu {r f u : List Rat} (h : Rwl r f u) : u.length = 40 := by
  rw [h.row, rowN_len, ← h.lf]
  have := h.l12
  omega
theorem Rwl.rec40 {r f u : List Rat} (h : Rwl r f u) : Rec r u 40 := by
  have := rowN_Rec h.lf (40 - r.length)
  rw [← h.row, ← h.lf] at this
  have l := h.l12
  rw [show r.length + (40 - r.length) = 40 by omega] at this
  exact this
theorem Rec.le {r u : List Rat} {T T' : Nat} (h : Rec r u T) (l : T' ≤ T) : Rec r u T' := fun n a b => h n a (by omega)
theorem Rwl.first {r f u : List Rat} (h : Rwl r f u) {k : Nat} (hk : k < r.length) : cf u k = cf f k := by
  rw [h.row]
  exact rowN_cf_first _ _ (by rw [← h.lf]; exact hk)
theorem Rwl.take {r f u : List Rat} (h : Rwl r f u) {n : Nat} (h1 : r.length ≤ n) (h2 : n ≤ 40) : rowN r f (n - r.length) = u.take n := by
  have l := h.l12
  have lf := h.lf
  have lu := h.lu
  have e := rowN_eq (rule := r) (s := u) rfl (n - r.length) (by omega) (fun k a b => h.rec40 k a (by omega)) (by omega)
  have ef : u.take r.length = f := list_cf (by rw [List.length_take]; omega) fun k hk => by
    rw [List.length_take] at hk
    rw [cf_take (by omega), h.first (by omega)]
  rw [ef, show r.length + (n - r.length) = n by omega] at e
  exact e
theorem Rwl.z {r f u : List Rat} (h : Rwl r f u) {n : Nat} (hn : n < 40) : Zb (bnd 4 n) (cf u n) := by
  have l := h.l12
  have e0 : Zb 2 (cf u 0) := by rw [h.first (by omega)]; exact cf_all (Zb.zero 2) h.zf 0
  refine (rec_bnd (c := 4) l (cf_all (Zb.zero 2) h.zr) h.rec40 e0 (fun _ => ?_) n).1 hn
  rcases l with l | l
  · obtain ⟨a, rfl⟩ : ∃ a, r = [a] := by
      rcases r with _ | ⟨a, _ | ⟨b, r⟩⟩
      · simp at l
      · exact ⟨a, rfl⟩
      · simp at l
    rw [h.rec40.one (n := 0) (by omega)]
    exact (h.zr a (by simp)).mul e0
  · rw [h.first (k := 1) (by omega)]
    exact (cf_all (Zb.zero 2) h.zf 1).mono (by omega)
theorem Rwl.z2 {r f u : List Rat} (h : Rwl r f u) (l : r.length = 2) {n : Nat} (hn : n < 40) : Zb (bnd 2 n) (cf u n) := by
  have e0 : Zb 2 (cf u 0) := by rw [h.first (by omega)]; exact cf_all (Zb.zero 2) h.zf 0
  refine (rec_bnd (c := 2) (.inr l) (cf_all (Zb.zero 2) h.zr) h.rec40 e0 (fun _ => ?_) n).1 hn
  rw [h.first (k := 1) (by omega)]
  exact cf_all (Zb.zero 2) h.zf 1
theorem Zb.fb {B n : Nat} {q : Rat} (h : Zb B q) (hB : B < 2 ^ n) (hn : 1 ≤ n) : Fb n q := by
  obtain ⟨z, e, hz⟩ := h
  rw [e]
  exact fb_int (by omega) hn
theorem Zb.hb {B n : Nat} {p : List Rat} (h : ∀ q, q ∈ p → Zb B q) (hB : B ≤ 2 ^ n) : Hb (n + 1) p := (Zb.hc h hB).hb
structure Jn (M N T : Nat) (r s : List Rat) : Prop where
  ls : s.length = T
  hr : r = s.take N
  dq : ∃ D Q : List Rat, D.length ≤ M + 1 ∧ cf D 0 = 1 ∧ Q.length ≤ M ∧ Cg T (pmul D s) Q
  hc : Hc 21 r
  hb : Hb 100 s
  m4 : M ≤ 4
  n2 : N = 2 * M
  nt : N ≤ T
theorem Jn.ok {M N T : Nat} {r s : List Rat} (J : Jn M N T r s) : bmok 21 M N 0 0 0 0 0 = true := by
  rw [J.n2]
  have := J.m4
  exact bm33s ⟨M, by omega⟩
theorem Jn.lr {M N T : Nat} {r s : List Rat} (J : Jn M N T r s) : r.length = N := by
  rw [J.hr, List.length_take, J.ls]
  have := J.nt
  omega
end Mini
namespace Mini
theorem Rwl.hbr {r f u : List Rat} (h : Rwl r f u) : Hb 2 r := Zb.hb h.zr (by decide)
theorem Rwl.zt {r1 f1 u1 r2 f2 u2 : List Rat} (h1 : Rwl r1 f1 u1) (h2 : Rwl r2 f2 u2) {n : Nat} (hn : n < 12) : Zb ((n + 1) * (4 * 3 ^ n)) (cf (pmul u1 u2) n) := by
  rw [cf_pmul]
  refine Zb.sm fun k hk => ((h1.z (by omega)).mul (h2.z (by omega))).mono ?_
  have a := (bnd_3 k).1
  have b := (bnd_3 (n - k)).1
  refine Nat.le_trans (Nat.mul_le_mul a b) (Nat.le_of_eq ?_)
  rw [show n = k + (n - k) by omega, Nat.pow_add, show k + (n - k) - k = n - k by omega]
  generalize 3 ^ k = x
  generalize 3 ^ (n - k) = y
  rw [Nat.mul_mul_mul_comm]
end Mini
namespace Mini
open PySem L2
end Mini
namespace Mini
open PySem L2
end Mini
namespace Mini
open PySem L2
theorem part_out1 (k : Nat) (hk : 3 ≤ k) {δ : Dl} {n m : Nat} {d : Rat} (hd : Fb m d) (h0 : d ≠ 0) (n1 : 1 ≤ n) (hs : n + m ≤ 4400) (s0 : Option D) : ∀ (i : Nat) (F R : List Rat) (s2 s5 s6 s7 : Option D), (∀ t, Fb n (cf R t)) → i ≤ R.length → i ≤ F.length →
    ∃ t2 t5 t6 t7, forGo (.name 2) (evS (PF k) fuel b2_parted) (rngFrom ((i : Int) - 1) (-1) i) [s0, some (pl [d]), s2, some (.own (R.map fr)), some (.own (F.map fr)), s5, s6, s7] δ =
      .nx [s0, some (pl [d]), t2, some (.own ((dgo [d] i F R).2.map fr)), some (.own ((dgo [d] i F R).1.map fr)), t5, t6, t7] δ
  | 0, F, R, s2, s5, s6, s7, _, _, _ => ⟨s2, s5, s6, s7, rfl⟩
  | i + 1, F, R, s2, s5, s6, s7, hR, hl, hF => by
    have ld : lc [d] = d := rfl
    have ft := hR i
    have fc : Fb (n + m) (cf R i / d) := ft.div hd
    have ed : cf R i / d * d = cf R i := by grind
    have hin : ∀ b, b ∈ [d] → Fb 4400 b ∧ Fb 4400 (cf R i / d * b) := fun b hb => by
      rw [List.mem_singleton.mp hb, ed]
      exact ⟨hd.mono (by omega), ft.mono (by omega)⟩
    obtain ⟨t6, t7, e1⟩ := part_in k hk (δ := δ) (fc.mono (by omega)) i s0 (some (pl [d])) (some (.own ((F.set i (cf R i / d)).map fr))) [d] 0 R s6 s7 hin (fun t _ => (hR t).mono (by omega)) (by simp; omega)
    have hR' : ∀ t, Fb n (cf (R.set i 0) t) := fun t => by
      rw [cf_set (by omega)]
      split
      · exact fb_zero n1
      · exact hR t
    obtain ⟨u2, u5, u6, u7, e2⟩ := part_out1 k hk (δ := δ) hd h0 n1 hs s0 i (F.set i (cf R i / d)) (R.set i 0) (some (.int (i : Nat))) (some (fr (cf R i / d))) t6 t7 hR' (by rw [List.length_set]; omega) (by rw [List.length_set]; omega)
    refine ⟨u2, u5, u6, u7, ?_⟩
    have ed2 : dgo [d] (i + 1) F R = dgo [d] i (F.set i (cf R i / d)) (R.set i 0) := by
      show dgo [d] i (F.set i (cf R (i + 1 - 1) / lc [d])) (inn (-(cf R (i + 1 - 1) / lc [d])) i [d] R) = _
      rw [ld, Nat.add_sub_cancel, inn_const h0]
    rw [ed2]
    rw [Nat.add_zero, inn_const h0] at e1
    have ix : atI (R.map fr) (i : Int) = some (fr (cf R i)) := atI_fr (by omega)
    have ixn : ixN (F.map fr).length (i : Int) = some i := by
      rw [List.length_map]
      unfold ixN
      rw [if_pos (by omega), if_pos (by omega), Int.toNat_natCast]
    have Ld := C_lead k (by omega) δ [d]
    rw [ld] at Ld
    have Ov := C_over k hk δ (a := cf R i) (b := d) (ft.mono (by omega)) (hd.mono (by omega)) h0
    have st : (F.map fr).set i (fr (cf R i / d)) = (F.set i (cf R i / d)).map fr := List.map_set.symm
    have it : itemsD δ .enum [pl [d]] = some (enumFrom 0 ([d].map fr)) := rfl
    have ex : (i : Int) + 1 - 1 = (i : Int) := by omega
    show forGo (.name 2) (evS (PF k) fuel b2_parted) (.int (((i + 1 : Nat) : Int) - 1) :: rngFrom (((i + 1 : Nat) : Int) - 1 + -1) (-1) i) _ δ = _
    rw [show ((i + 1 : Nat) : Int) - 1 = (i : Nat) by omega, show (i : Int) + -1 = (i : Int) - 1 by omega]
    rw [forGo_nx (σ1 := [s0, some (pl [d]), some (.int (i : Nat)), some (.own (R.map fr)), some (.own (F.map fr)), s5, s6, s7]) (σ2 := [s0, some (pl [d]), some (.int (i : Nat)), some (.own ((R.set i 0).map fr)), some (.own ((F.set i (cf R i / d)).map fr)), some (fr (cf R i / d)), t6, t7]) (δ2 := δ) (by simp) (by
      rw [← st] at e1 ⊢
      generalize R.map fr = RL at *
      generalize F.map fr = FL at *
      generalize enumFrom 0 ([d].map fr) = en at *
      simp [b2_parted, ex, ix, Ld, Ov, ixn, it, e1]), e2]
theorem C_parted1 (k : Nat) (hk : 4 ≤ k) (δ : Dl) {n m : Nat} {p : List Rat} {d : Rat} (hp : Hb n p) (hd : Fb m d) (h0 : d ≠ 0) (n1 : 1 ≤ n) (lp : p.length ≤ 1000) (hs : n + m ≤ 4400) : callE (PF k) f_parted [pl p, pl [d]] δ = .ok (.tup [pl (pquo p [d]), pl (prem p [d])]) δ := by
  obtain ⟨k, rfl⟩ : ∃ m, k = m + 1 := ⟨k - 1, by omega⟩
  refine call_ok ?_ rfl rfl
  rw [F_at (d := d_parted) [some (pl p), some (pl [d]), none, none, none, none, none, none] rfl rfl rfl]
  have mx : bltD δ .max2 [.int 0, .int (p.length : Int)] = some (.int (p.length : Int)) := by
    show some (D.int (if (p.length : Int) > 0 then (p.length : Int) else 0)) = _
    congr 2
    split <;> omega
  have rp : binD .Mult (.lst [fr 0]) (.int (p.length : Int)) = some (.lst ((List.replicate p.length (0 : Rat)).map fr)) := rep_zero _ rfl (by omega)
  have it : itemsD δ .rng3 [.int ((p.length : Int) - (1 : Int)), .int (-1), .int (-1)] = some (rngFrom ((p.length : Int) - 1) (-1) p.length) := by
    show (if rOk ((p.length : Int) - 1) && rOk (-1) && decide ((-1 : Int) = -1) then some (rngFrom ((p.length : Int) - 1) (-1) ((p.length : Int) - 1 - -1).toNat) else none) = _
    rw [show rOk ((p.length : Int) - 1) = true from rOk_le (by omega) (by omega), show rOk (-1) = true from rOk_le (by omega) (by omega)]
    simp only [Bool.and_self, decide_true, if_true]
    rw [show ((p.length : Int) - 1 - -1).toNat = p.length by omega]
  have neq : eqD (pl [d]) (.tup []) = some false := by rw [eqD_plnil, decide_eq_false (by simp)]
  obtain ⟨t2, t5, t6, t7, e⟩ := part_out1 k (by omega) (δ := δ) hd h0 n1 hs (some (pl p)) p.length (List.replicate p.length 0) p none none none none (fun t => hp.cf t) (Nat.le_refl _) (by simp)
  have ed : pdivmod p [d] = dgo [d] p.length (List.replicate p.length 0) p := by
    unfold pdivmod
    rw [show p.length + 1 - [d].length = p.length by simp]
  rw [← ed] at e
  have dl := dgo_len (q := [d]) p.length (List.replicate p.length 0) p
  rw [List.length_replicate, ← ed] at dl
  have C1 := C_cutL k (by omega) δ (pdivmod p [d]).1 (by omega)
  have C2 := C_cutL k (by omega) δ (pdivmod p [d]).2 (by omega)
  rw [show trim (pdivmod p [d]).1 = pquo p [d] from rfl] at C1
  rw [show trim (pdivmod p [d]).2 = prem p [d] from rfl] at C2
  have ld1 : ([d] : List Rat).length = 1 := rfl
  simp only [d_parted, m_parted]
  generalize (List.replicate p.length (0 : Rat)).map fr = Z at *
  generalize rngFrom ((p.length : Int) - 1) (-1) p.length = rl at *
  generalize (pdivmod p [d]).1 = M1 at *
  generalize (pdivmod p [d]).2 = M2 at *
  simp [neq, fr0, mx, rp, it, e, C1, C2, ld1]
theorem div_loop (k : Nat) (hk : 4 ≤ k) {δ : Dl} : ∀ (f N n m : Nat) (p q : List Rat), f < N → q.length ≤ f → Tr q → p.length ≤ 16 → q.length ≤ 16 → Hb n p → Hb m q → 1 ≤ n → 1 ≤ m → okd f p.length n q.length m = true →
    whlGo (evA' (PF k) c1_divisor).t (evS (PF k) fuel b1_divisor) N [some (pl p), some (pl q)] δ = .nx [some (pl (gcdP f p q)), some (pl [])] δ ∧ Hb 4000 (gcdP f p q) ∧ (gcdP f p q).length ≤ 16
  | f, 0, n, m, p, q, h, _, _, _, _, _, _, _, _, _ => by omega
  | 0, N + 1, n, m, p, q, _, lq, tq, lp, lqs, hp, hq, _, _, ok => by
    have hz : q = [] := List.length_eq_zero_iff.mp (by omega)
    subst hz
    have ok' : n ≤ 4000 := of_decide_eq_true ok
    exact ⟨by rw [whl_stop (δ1 := δ) (by simp [c1_divisor])]; rfl, hp.mono ok', lp⟩
  | f + 1, N + 1, n, m, p, q, hN, lq, tq, lp, lqs, hp, hq, n1, m1, ok => by
    unfold okd at ok
    unfold gcdP
    by_cases hz : q = []
    · subst hz
      rw [if_pos rfl]
      rw [if_pos (by simp)] at ok
      have ok' : n ≤ 4000 := of_decide_eq_true ok
      exact ⟨by rw [whl_stop (δ1 := δ) (by simp [c1_divisor])], hp.mono ok', lp⟩
    · rw [if_neg hz]
      have lq0 := List.length_pos_iff.mpr hz
      have l0 := tr_lc tq hz
      rw [if_neg (by omega), Bool.and_eq_true, List.all_eq_true] at ok
      obtain ⟨ok1, ok2⟩ := ok
      have lr := rem_len (p := p) hz l0
      have okr := ok2 (prem p q).length (List.mem_range.mpr (by omega))
      have main : callE (PF k) f_parted [pl p, pl q] δ = .ok (.tup [pl (pquo p q), pl (prem p q)]) δ ∧ Hb (if q.length = 1 then 1 else n + (p.length + 1 - q.length) * (m + 1)) (prem p q) := by
        by_cases h1 : q.length = 1
        · obtain ⟨d, rfl⟩ := List.length_eq_one_iff.mp h1
          rw [if_pos h1] at ok1
          have ok1' : n + m ≤ 4400 := of_decide_eq_true ok1
          have d0 : d ≠ 0 := l0
          refine ⟨C_parted1 k hk δ hp (hq.fb List.mem_cons_self) d0 n1 (by omega) ok1', ?_⟩
          rw [if_pos h1, prem_const d0]
          exact hb_nil (by omega)
        · rw [if_neg h1] at ok1
          have ok1' : n + (p.length + 1 - q.length) * (m + 1) + 2 * m + 1 ≤ 4400 := of_decide_eq_true ok1
          exact ⟨C_parted k hk δ hp hq l0 hz (by omega) (by omega) ok1', by rw [if_neg h1]; exact hp.prem hq l0 hz⟩
      obtain ⟨P, hr⟩ := main
      have ne : eqD (pl q) (.tup []) = some false := by rw [eqD_plnil, decide_eq_false hz]
      have m1' : 1 ≤ (if q.length = 1 then 1 else n + (p.length + 1 - q.length) * (m + 1)) := by split <;> omega
      have ih := div_loop k hk (δ := δ) f N m _ q (prem p q) (by omega) (by omega) (prem_tr _ _) lqs (by omega) hq hr m1 m1' okr
      refine ⟨?_, ih.2⟩
      rw [whl_go (δ1 := δ) (δ2 := δ) (σ2 := [some (pl q), some (pl (prem p q))]) (by simp [c1_divisor, ne]) (by simp [b1_divisor, P]), ih.1]
end Mini
namespace Mini
open PySem L2
theorem C_monic (k : Nat) (hk : 5 ≤ k) (δ : Dl) {p : List Rat} (hp : Hb 4000 p) (np : p ≠ []) (tp : Tr p) (lp : p.length ≤ 1000) : callE (PF k) f_monic [pl p] δ = .ok (pl (pscal p (1 / lc p))) δ := by
  obtain ⟨k, rfl⟩ : ∃ m, k = m + 1 := ⟨k - 1, by omega⟩
  refine call_ok ?_ rfl rfl
  rw [F_at (d := d_monic) [some (pl p)] rfl rfl rfl]
  have O1 : callE (PF k) f_of [.int 1] δ = .ok (fr 1) δ := C_of k (by omega) δ 1
  have L := C_lead k (by omega) δ p
  have fl : Fb 4000 (lc p) := hp.cf _
  have Ov := C_over k (by omega) δ ((fb_one (n := 1) (by omega)).mono (by omega)) (fl.mono (by omega)) (tr_lc tp np)
  have S := C_scaled k (by omega) δ (p := p) lp (fun a ha => (hp.fb ha).mono (by omega)) (((fb_one (n := 1) (by omega)).div fl).mono (by omega))
  have ne : eqD (pl p) (.tup []) = some false := by rw [eqD_plnil, decide_eq_false np]
  simp only [d_monic, m_monic]
  simp [ne, O1, L, Ov, S]
end Mini
namespace Mini
def exG : Nat → List Rat → List Rat → List Rat × List Rat → List Rat × List Rat → List Rat × List Rat × List Rat
  | 0, p, _, a, _ => (p, a.1, a.2)
  | n + 1, p, q, a, b => if q = [] then (p, a.1, a.2) else exG n q (prem p q) b (psub a.1 (pmul (pquo p q) b.1), psub a.2 (pmul (pquo p q) b.2))
theorem exG_gcd : ∀ (n : Nat) (p q : List Rat) (a b : List Rat × List Rat), (exG n p q a b).1 = gcdP n p q
  | 0, _, _, _, _ => rfl
  | n + 1, p, q, a, b => by
    unfold exG gcdP
    split
    · rfl
    · exact exG_gcd n _ _ _ _
theorem exG_made (f g : List Rat) : ∀ (n : Nat) (p q : List Rat) (a b : List Rat × List Rat), (∀ x, ev a.1 x * ev f x + ev a.2 x * ev g x = ev p x) → (∀ x, ev b.1 x * ev f x + ev b.2 x * ev g x = ev q x) →
    ∀ x, ev (exG n p q a b).2.1 x * ev f x + ev (exG n p q a b).2.2 x * ev g x = ev (exG n p q a b).1 x
  | 0, p, q, a, b, h, _ => h
  | n + 1, p, q, a, b, h1, h2 => by
    unfold exG
    split
    · exact h1
    · rename_i z
      refine exG_made f g n q (prem p q) b _ h2 fun x => ?_
      have e := div_ev (p := p) z x
      have e1 := h1 x
      have e2 := h2 x
      show ev (psub a.1 (pmul (pquo p q) b.1)) x * ev f x + ev (psub a.2 (pmul (pquo p q) b.2)) x * ev g x = _
      rw [evq_psub, evq_pmul, evq_psub, evq_pmul]
      grind
theorem gcdP_ne : ∀ (n : Nat) (p q : List Rat), Tr q → q.length ≤ n → (p ≠ [] ∨ q ≠ []) → gcdP n p q ≠ []
  | 0, p, q, _, l, h => h.resolve_right fun z => z (List.length_eq_zero_iff.mp (by omega))
  | n + 1, p, q, t, l, h => by
    unfold gcdP
    split
    · rename_i z
      exact h.resolve_right fun y => y z
    · rename_i z
      have := rem_len (p := p) z (tr_lc t z)
      exact gcdP_ne n q _ (prem_tr _ _) (by omega) (.inl z)
theorem pmul_eq_nil {p h : List Rat} (tp : Tr p) (th : Tr h) (nh : h ≠ []) : pmul p h = [] ↔ p = [] := by
  refine ⟨fun z => ?_, fun z => by rw [z]; rfl⟩
  rcases Classical.em (p = []) with y | y
  · exact y
  · have := pmul_length tp th y nh
    have a := List.length_pos_iff.mpr y
    have b := List.length_pos_iff.mpr nh
    rw [z] at this
    simp at this
    omega
end Mini
namespace Mini
def sgn (m n : Nat) : Rat := if m * n % 2 = 1 then -1 else 1
theorem sgn_sq (m n : Nat) : sgn m n * sgn m n = 1 := by
  unfold sgn
  split <;> grind
theorem sgn_comm (m n : Nat) : sgn m n = sgn n m := by unfold sgn; rw [Nat.mul_comm]
theorem sgn_zero (n : Nat) : sgn 0 n = 1 := by unfold sgn; rw [Nat.zero_mul]; rfl
theorem sgn_add (a b n : Nat) : sgn (a + b) n = sgn a n * sgn b n := by
  unfold sgn
  rw [Nat.add_mul]
  rcases Nat.mod_two_eq_zero_or_one (a * n) with h1 | h1 <;> rcases Nat.mod_two_eq_zero_or_one (b * n) with h2 | h2
  · rw [if_neg (by omega), if_neg (by omega), if_neg (by omega)]; grind
  · rw [if_pos (by omega), if_neg (by omega), if_pos (by omega)]; grind
  · rw [if_pos (by omega), if_pos (by omega), if_neg (by omega)]; grind
  · rw [if_neg (by omega), if_pos (by omega), if_pos (by omega)]; grind
def dg (p : List Rat) : Nat := p.length - 1
def rsl : Nat → List Rat → List Rat → Rat
  | 0, _, _ => 0
  | n + 1, p, q => if p = [] ∨ q = [] then 0 else if q.length = 1 then cf q 0 ^ dg p else if p.length < q.length then sgn (dg p) (dg q) * rsl n q p else
    sgn (dg p) (dg q) * (if prem p q = [] then 0 else lc q ^ (dg p - dg (prem p q)) * rsl n q (prem p q))
theorem rsl_fuel : ∀ (n m : Nat) (p q : List Rat), Tr q → q.length ≤ p.length → q.length < n → q.length < m → rsl n p q = rsl m p q
  | 0, m, p, q, _, _, h, _ => by omega
  | n + 1, 0, p, q, _, _, _, h => by omega
  | n + 1, m + 1, p, q, tq, hl, h1, h2 => by
    unfold rsl
    by_cases hz : p = [] ∨ q = []
    · rw [if_pos hz, if_pos hz]
    · rw [if_neg hz, if_neg hz]
      by_cases h3 : q.length = 1
      · rw [if_pos h3, if_pos h3]
      · rw [if_neg h3, if_neg h3, if_neg (show ¬ p.length < q.length by omega), if_neg (show ¬ p.length < q.length by omega)]
        have nq : q ≠ [] := fun z => hz (.inr z)
        have lq := List.length_pos_iff.mpr nq
        have lr := rem_len (p := p) nq (tr_lc tq nq)
        rw [rsl_fuel n m q (prem p q) (prem_tr _ _) (by omega) (by omega) (by omega)]
def rs (p q : List Rat) : Rat := rsl (p.length + q.length + 2) p q
theorem rs_one {p q : List Rat} (np : p ≠ []) (h : q.length = 1) : rs p q = cf q 0 ^ dg p := by
  unfold rs rsl
  have nq : q ≠ [] := fun z => by rw [z] at h; simp at h
  rw [if_neg (by rintro (z | z) <;> contradiction), if_pos h]
theorem rs_swap {p q : List Rat} (tp : Tr p) (tq : Tr q) (np : p ≠ []) (h : p.length < q.length) : rs p q = sgn (dg p) (dg q) * rs q p := by
  have lp := List.length_pos_iff.mpr np
  have nq : q ≠ [] := fun z => by rw [z] at h; simp at h
  show rsl (p.length + q.length + 1 + 1) p q = _
  unfold rsl
  rw [if_neg (by rintro (z | z) <;> contradiction), if_neg (by omega), if_pos h]
  congr 1
  exact rsl_fuel _ _ q p tp (by omega) (by omega) (by omega)
theorem rs_step {p q : List Rat} (tq : Tr q) (h : q.length ≤ p.length) (h2 : 2 ≤ q.length) : rs p q = sgn (dg p) (dg q) * (if prem p q = [] then 0 else lc q ^ (dg p - dg (prem p q)) * rs q (prem p q)) := by
  have nq : q ≠ [] := fun z => by rw [z] at h2; simp at h2
  have np : p ≠ [] := fun z => by rw [z] at h; simp at h; exact nq h
  have lr := rem_len (p := p) nq (tr_lc tq nq)
  show rsl (p.length + q.length + 1 + 1) p q = _
  unfold rsl
  rw [if_neg (by rintro (z | z) <;> contradiction), if_neg (show ¬ q.length = 1 by omega), if_neg (show ¬ p.length < q.length by omega)]
  congr 1
  split
  · rfl
  · congr 1
    exact rsl_fuel _ _ q (prem p q) (prem_tr _ _) (by omega) (by omega) (by omega)
end Mini
namespace Mini
theorem mul_powR (a b : Rat) : ∀ n : Nat, (a * b) ^ n = a ^ n * b ^ n
  | 0 => by rw [Rat.pow_zero, Rat.pow_zero, Rat.pow_zero]; grind
  | n + 1 => by rw [Rat.pow_succ, Rat.pow_succ, Rat.pow_succ, mul_powR a b n]; grind
theorem pow_addR (a : Rat) (m : Nat) : ∀ n : Nat, a ^ (m + n) = a ^ m * a ^ n
  | 0 => by rw [Nat.add_zero, Rat.pow_zero]; grind
  | n + 1 => by rw [← Nat.add_assoc, Rat.pow_succ, Rat.pow_succ, pow_addR a m n]; grind
theorem pow_neR {a : Rat} (h : a ≠ 0) : ∀ n : Nat, a ^ n ≠ 0
  | 0 => by rw [Rat.pow_zero]; decide
  | n + 1 => by
    rw [Rat.pow_succ]
    intro z
    rcases Rat.mul_eq_zero.mp z with z | z
    · exact pow_neR h n z
    · exact h z
theorem scal_len {p : List Rat} {c : Rat} (tp : Tr p) (hc : c ≠ 0) : (pscal p c).length = p.length := by
  have l1 := pscal_len p c
  rcases tp with h | h
  · rw [h] at l1 ⊢
    simpa using l1
  · apply Classical.byContradiction
    intro z
    have e : cf (pscal p c) (p.length - 1) = cf p (p.length - 1) * c := cf_pscal p c _
    rw [cf_ge (by omega)] at e
    rcases Rat.mul_eq_zero.mp e.symm with y | y
    · exact h y
    · exact hc y
theorem scal_lc {p : List Rat} {c : Rat} (tp : Tr p) (hc : c ≠ 0) : lc (pscal p c) = lc p * c := by
  unfold lc
  rw [scal_len tp hc, cf_pscal]
theorem scal_dg {p : List Rat} {c : Rat} (tp : Tr p) (hc : c ≠ 0) : dg (pscal p c) = dg p := by
  unfold dg
  rw [scal_len tp hc]
theorem scal_ne {p : List Rat} {c : Rat} (tp : Tr p) (hc : c ≠ 0) : pscal p c = [] ↔ p = [] := by
  rw [← List.length_eq_zero_iff, scal_len tp hc, List.length_eq_zero_iff]
theorem prem_scal1 {p q : List Rat} {c : Rat} (tq : Tr q) (nq : q ≠ []) : prem (pscal p c) q = pscal (prem p q) c := by
  have lr := rem_len (p := p) nq (tr_lc tq nq)
  have ls := pscal_len (prem p q) c
  exact (div_uniq (p := pscal p c) (q := q) (a := pscal (pquo p q) c) (r := pscal (prem p q) c) tq nq (pscal_tr _ _) (pscal_tr _ _) (by omega) fun x => by
    rw [evq_pscal, evq_pscal, evq_pscal, ← div_ev (p := p) nq x]; grind).2.symm
theorem prem_scal2 {p q : List Rat} {c : Rat} (tq : Tr q) (nq : q ≠ []) (hc : c ≠ 0) : prem p (pscal q c) = prem p q := by
  have lr := rem_len (p := p) nq (tr_lc tq nq)
  have ls := scal_len tq hc
  exact (div_uniq (p := p) (q := pscal q c) (a := pscal (pquo p q) (1 / c)) (r := prem p q) (pscal_tr _ _) (fun z => nq ((scal_ne tq hc).mp z)) (pscal_tr _ _) (prem_tr _ _) (by omega) fun x => by
    rw [evq_pscal, evq_pscal, ← div_ev (p := p) nq x]
    have : c * (1 / c) = 1 := by grind
    generalize 1 / c = d at *
    have e : ev (pquo p q) x * d * (ev q x * c) = ev (pquo p q) x * ev q x * (c * d) := by grind
    rw [e, this]; grind).2.symm
theorem rs_scal_ge : ∀ (N : Nat) (p q : List Rat), q.length ≤ N → Tr p → Tr q → q ≠ [] → q.length ≤ p.length → ∀ c : Rat, c ≠ 0 → rs (pscal p c) q = c ^ dg q * rs p q ∧ rs p (pscal q c) = c ^ dg p * rs p q
  | 0, p, q, h, _, _, nq, _, c, _ => absurd (List.length_eq_zero_iff.mp (by omega)) nq
  | N + 1, p, q, h, tp, tq, nq, hl, c, hc => by
    have lq := List.length_pos_iff.mpr nq
    have np : p ≠ [] := fun z => by rw [z] at hl; simp at hl; exact nq hl
    have np' : pscal p c ≠ [] := fun z => np ((scal_ne tp hc).mp z)
    have s1 := scal_len tp hc
    have s2 := scal_len tq hc
    by_cases h1 : q.length = 1
    · refine ⟨?_, ?_⟩
      · rw [rs_one np' h1, rs_one np h1, scal_dg tp hc, show dg q = 0 by unfold dg; omega, Rat.pow_zero]; grind
      · rw [rs_one np (by omega), rs_one np h1, cf_pscal, mul_powR]; grind
    · have lr := rem_len (p := p) nq (tr_lc tq nq)
      have ih := fun nr => rs_scal_ge N q (prem p q) (by omega) tq (prem_tr _ _) nr (by omega) c hc
      refine ⟨?_, ?_⟩
      · rw [rs_step tq (by omega) (by omega), rs_step tq hl (by omega), prem_scal1 tq nq, scal_dg tp hc]
        by_cases zr : prem p q = []
        · rw [if_pos ((scal_ne (prem_tr p q) hc).mpr zr), if_pos zr]; grind
        · rw [if_neg fun z => zr ((scal_ne (prem_tr p q) hc).mp z), if_neg zr, scal_dg (prem_tr p q) hc, (ih zr).2]; grind
      · rw [rs_step (pscal_tr _ _) (by omega) (by omega), rs_step tq hl (by omega), prem_scal2 tq nq hc, scal_dg tq hc]
        by_cases zr : prem p q = []
        · rw [if_pos zr, if_pos zr]; grind
        · rw [if_neg zr, if_neg zr, (ih zr).1, scal_lc tq hc, mul_powR]
          have lr0 := List.length_pos_iff.mpr zr
          have e : c ^ dg p = c ^ (dg p - dg (prem p q)) * c ^ dg (prem p q) := by
            rw [← pow_addR]
            congr 1
            unfold dg
            omega
          rw [e]; grind
end Mini
namespace Mini
theorem neg_powR : ∀ m : Nat, (-1 : Rat) ^ m = sgn m m
  | 0 => by rw [Rat.pow_zero, sgn_zero]
  | m + 1 => by
    rw [Rat.pow_succ, neg_powR m]
    unfold sgn
    have h1 : (m + 1) * (m + 1) = m * m + 2 * m + 1 := by rw [Nat.add_mul, Nat.mul_add]; omega
    rcases Nat.mod_two_eq_zero_or_one (m * m) with h | h
    · rw [if_neg (by omega), if_pos (by omega)]; grind
    · rw [if_pos (by omega), if_neg (by omega)]; grind
theorem cf_ev2 {p q r : List Rat} {c : Rat} (h : ∀ x, ev p x = c * ev q x + ev r x) (k : Nat) : cf p k = c * cf q k + cf r k := by
  have e := cf_of_ev (p := p) (q := padd (pscal q c) r) (fun x => by rw [evq_padd, evq_pscal, h x]; grind) k
  rw [e, cf_padd, cf_pscal]; grind
theorem rs_sym_eq {p q : List Rat} (tp : Tr p) (tq : Tr q) (np : p ≠ []) (nq : q ≠ []) (hl : p.length = q.length) : rs p q = sgn (dg p) (dg q) * rs q p := by
  have lp := List.length_pos_iff.mpr np
  have ed : dg p = dg q := by unfold dg; rw [hl]
  by_cases h1 : q.length = 1
  · rw [rs_one np h1, rs_one nq (by omega), show dg p = 0 by unfold dg; omega, show dg q = 0 by unfold dg; omega, Rat.pow_zero, Rat.pow_zero, sgn_zero]; grind
  · have lr := rem_len (p := p) nq (tr_lc tq nq)
    have dv := fun x => div_ev (p := p) nq x
    obtain ⟨c, hc⟩ : ∃ c, pquo p q = [c] := by
      have l := pquo_len p q
      rcases hq : pquo p q with _ | ⟨c, _ | ⟨d, t⟩⟩
      · exfalso
        have e : p = prem p q := evq_ext tp (prem_tr _ _) fun x => by rw [← dv x, hq, evq_nil]; grind
        have := congrArg List.length e
        omega
      · exact ⟨c, rfl⟩
      · rw [hq] at l; simp at l; omega
    have c0 : c ≠ 0 := by
      have t := pquo_tr p q
      rw [hc] at t
      rcases t with t | t
      · simp at t
      · exact t
    have eq1 : ∀ x, ev p x = c * ev q x + ev (prem p q) x := fun x => by rw [← dv x, hc, ev_one]
    have lcp : lc p = c * lc q := by
      have := cf_ev2 eq1 (p.length - 1)
      rw [cf_ge (p := prem p q) (by omega)] at this
      unfold lc
      rw [this, hl]; grind
    have e0 : -(1 / c) ≠ 0 := by
      intro z
      have : c * (1 / c) = 1 := by grind
      grind
    have er : prem q p = pscal (prem p q) (-(1 / c)) := by
      have ls := pscal_len (prem p q) (-(1 / c))
      exact (div_uniq (p := q) (q := p) (a := [1 / c]) (r := pscal (prem p q) (-(1 / c))) tp np (.inr (by show 1 / c ≠ 0; intro z; apply e0; rw [z]; grind)) (pscal_tr _ _) (by omega) fun x => by
        rw [ev_one, evq_pscal, eq1 x]
        have : c * (1 / c) = 1 := by grind
        generalize 1 / c = d at *
        have e : d * (c * ev q x + ev (prem p q) x) + ev (prem p q) x * -d = c * d * ev q x := by grind
        rw [e, this]; grind).2.symm
    rw [rs_step tq (by omega) (by omega), rs_step tp (by omega) (by omega), er]
    by_cases zr : prem p q = []
    · rw [if_pos zr, if_pos ((scal_ne (prem_tr p q) e0).mpr zr)]; grind
    · rw [if_neg zr, if_neg fun z => zr ((scal_ne (prem_tr p q) e0).mp z), scal_dg (prem_tr p q) e0]
      have lr0 := List.length_pos_iff.mpr zr
      rw [(rs_scal_ge p.length p (prem p q) (by omega) tp (prem_tr _ _) zr (by omega) (-(1 / c)) e0).2]
      have key : rs p (prem p q) = c ^ dg (prem p q) * rs q (prem p q) := by
        generalize hr : prem p q = r at *
        have tr : Tr r := by rw [← hr]; exact prem_tr _ _
        by_cases hr1 : r.length = 1
        · rw [rs_one np hr1, rs_one nq hr1, ed, show dg r = 0 by unfold dg; omega, Rat.pow_zero]; grind
        · have ep : prem p r = pscal (prem q r) c := by
            have lr2 := rem_len (p := q) zr (tr_lc tr zr)
            have ls := pscal_len (prem q r) c
            exact (div_uniq (p := p) (q := r) (a := padd (pscal (pquo q r) c) [1]) (r := pscal (prem q r) c) tr zr (padd_tr _ _) (pscal_tr _ _) (by omega) fun x => by
              rw [evq_padd, evq_pscal, evq_pscal, ev_one, eq1 x, ← div_ev (p := q) zr x]; grind).2.symm
          rw [rs_step tr (by omega) (by omega), rs_step tr (by omega) (by omega), ep, ed]
          have lr2 := rem_len (p := q) zr (tr_lc tr zr)
          by_cases zs : prem q r = []
          · rw [if_pos zs, if_pos ((scal_ne (prem_tr q r) c0).mpr zs)]; grind
          · rw [if_neg zs, if_neg fun z => zs ((scal_ne (prem_tr q r) c0).mp z), scal_dg (prem_tr q r) c0, (rs_scal_ge r.length r (prem q r) (by omega) tr (prem_tr _ _) zs (by omega) c c0).2]; grind
      rw [key, lcp, mul_powR, ed]
      have dr : dg (prem p q) ≤ dg q := by unfold dg; omega
      have e1 : c ^ dg q = c ^ (dg q - dg (prem p q)) * c ^ dg (prem p q) := by
        rw [← pow_addR]
        congr 1
        omega
      have e2 : (-(1 / c)) ^ dg q * c ^ dg q = sgn (dg q) (dg q) := by
        rw [← mul_powR, ← neg_powR]
        congr 1
        have : c * (1 / c) = 1 := by grind
        grind
      have sq := sgn_sq (dg q) (dg q)
      rw [e1] at e2
      generalize sgn (dg q) (dg q) = s at *
      generalize (-(1 / c)) ^ dg q = A at *
      generalize c ^ (dg q - dg (prem p q)) = B at *
      generalize c ^ dg (prem p q) = C at *
      generalize lc q ^ (dg q - dg (prem p q)) = L at *
      generalize rs q (prem p q) = X at *
      have e3 : s * (s * (B * L * (A * (C * X)))) = (s * s) * ((A * (B * C)) * (L * X)) := by grind
      rw [e3, e2, sq]; grind
theorem rs_sym {p q : List Rat} (tp : Tr p) (tq : Tr q) (np : p ≠ []) (nq : q ≠ []) : rs p q = sgn (dg p) (dg q) * rs q p := by
  rcases Nat.lt_trichotomy p.length q.length with h | h | h
  · exact rs_swap tp tq np h
  · exact rs_sym_eq tp tq np nq h
  · have e := rs_swap tq tp nq h
    have sq := sgn_sq (dg q) (dg p)
    rw [e, sgn_comm (dg p), ← Rat.mul_assoc, sq]; grind
end Mini
namespace Mini
theorem prem_small {p q : List Rat} (tp : Tr p) (tq : Tr q) (nq : q ≠ []) (h : p.length < q.length) : prem p q = p :=
  (div_uniq (p := p) (q := q) (a := []) (r := p) tq nq tr_nil tp (by omega) fun x => by rw [evq_nil]; grind).2.symm
theorem rs_red {p q : List Rat} (tp : Tr p) (tq : Tr q) (np : p ≠ []) (h2 : 2 ≤ q.length) : rs q p = if prem p q = [] then 0 else lc q ^ (dg p - dg (prem p q)) * rs q (prem p q) := by
  have nq : q ≠ [] := fun z => by rw [z] at h2; simp at h2
  by_cases h : q.length ≤ p.length
  · rw [rs_sym tq tp nq np, rs_step tq h h2, sgn_comm (dg q), ← Rat.mul_assoc, sgn_sq]; grind
  · rw [prem_small tp tq nq (by omega), if_neg np, Nat.sub_self, Rat.pow_zero]; grind
theorem rs_const {q p : List Rat} (np : p ≠ []) (tp : Tr p) (tq : Tr q) (h : q.length = 1) : rs q p = lc q ^ dg p := by
  have nq : q ≠ [] := fun z => by rw [z] at h; simp at h
  rw [rs_sym tq tp nq np, rs_one np h, show dg q = 0 by unfold dg; omega, sgn_zero]
  unfold lc
  rw [h]; grind
theorem prem_dg {p q : List Rat} (tp : Tr p) (tq : Tr q) (nq : q ≠ []) : dg (prem p q) ≤ dg p := by
  have lr := rem_len (p := p) nq (tr_lc tq nq)
  by_cases h : q.length ≤ p.length
  · unfold dg; omega
  · rw [prem_small tp tq nq (by omega)]
    exact Nat.le_refl _
theorem rs_cong {p p' q w : List Rat} (tp : Tr p) (tp' : Tr p') (tq : Tr q) (np : p ≠ []) (np' : p' ≠ []) (nq : q ≠ []) (h : ∀ x, ev p x = ev p' x + ev w x * ev q x) : rs q p * lc q ^ dg p' = rs q p' * lc q ^ dg p := by
  by_cases h1 : q.length = 1
  · rw [rs_const np tp tq h1, rs_const np' tp' tq h1]; grind
  · have lq := List.length_pos_iff.mpr nq
    have e : prem p q = prem p' q := (div_uniq (p := p) (q := q) (a := padd (trim w) (pquo p' q)) (r := prem p' q) tq nq (padd_tr _ _) (prem_tr _ _) (rem_len nq (tr_lc tq nq)) fun x => by
      rw [evq_padd, evq_trim, h x, ← div_ev (p := p') nq x]; grind).2.symm
    have d1 := prem_dg (p := p) tp tq nq
    have d2 := prem_dg (p := p') tp' tq nq
    rw [rs_red tp tq np (by omega), rs_red tp' tq np' (by omega)]
    rw [e] at d1 ⊢
    split
    · grind
    · have e1 : lc q ^ dg p = lc q ^ (dg p - dg (prem p' q)) * lc q ^ dg (prem p' q) := by
        rw [← pow_addR]; congr 1; omega
      have e2 : lc q ^ dg p' = lc q ^ (dg p' - dg (prem p' q)) * lc q ^ dg (prem p' q) := by
        rw [← pow_addR]; congr 1; omega
      rw [e1, e2]; grind
def lin (a : Rat) (f : List Rat) : List Rat := pmul [-a, 1] f
theorem lin_ev (a : Rat) (f : List Rat) (x : Rat) : ev (lin a f) x = (x - a) * ev f x := by
  unfold lin
  rw [evq_pmul, evq_cons, ev_one]; grind
theorem lin_tr (a : Rat) (f : List Rat) : Tr (lin a f) := pmul_tr _ _
theorem lin_len {f : List Rat} (a : Rat) (tf : Tr f) (nf : f ≠ []) : (lin a f).length = f.length + 1 := by
  have := pmul_length (p := [-a, 1]) (q := f) (.inr (by show (1 : Rat) ≠ 0; decide)) tf (by simp) nf
  unfold lin
  rw [this]
  simp; omega
theorem lin_lc {f : List Rat} (a : Rat) (tf : Tr f) (nf : f ≠ []) : lc (lin a f) = lc f := by
  have l := lin_len a tf nf
  have lf := List.length_pos_iff.mpr nf
  have e := mulL_top [-a, 1] f (by simp) nf
  unfold lc
  rw [l]
  unfold lin pmul
  rw [cf_trim, show f.length + 1 - 1 = ([-a, 1] : List Rat).length + f.length - 2 by simp, e]
  show (1 : Rat) * _ = _
  grind
theorem lin_dg {f : List Rat} (a : Rat) (tf : Tr f) (nf : f ≠ []) : dg (lin a f) = dg f + 1 := by
  have := lin_len a tf nf
  have lf := List.length_pos_iff.mpr nf
  unfold dg
  omega
theorem rs_lin (a : Rat) : ∀ (N : Nat) (f g : List Rat), f.length + g.length ≤ N → Tr f → Tr g → f ≠ [] → g ≠ [] → rs (lin a f) g = ev g a * rs f g
  | 0, f, g, h, _, _, nf, _ => absurd (List.length_eq_zero_iff.mp (by omega)) nf
  | N + 1, f, g, h, tf, tg, nf, ng => by
    have lf := List.length_pos_iff.mpr nf
    have lg := List.length_pos_iff.mpr ng
    have lF := lin_len a tf nf
    have dF := lin_dg a tf nf
    have cF := lin_lc a tf nf
    have tF := lin_tr a f
    have nF : lin a f ≠ [] := fun z => by rw [z] at lF; simp at lF
    have zF : ev (lin a f) a = 0 := by rw [lin_ev]; grind
    by_cases h1 : g.length = 1
    · rw [rs_one nF h1, rs_one nf h1, dF, Rat.pow_succ]
      obtain ⟨c, rfl⟩ := List.length_eq_one_iff.mp h1
      rw [ev_one]
      show c ^ dg f * c = c * c ^ dg f
      grind
    · by_cases hA : f.length < g.length
      · have dv := fun x => div_ev (p := g) nF x
        have lr := rem_len (p := g) nF (tr_lc tF nF)
        have ea : ev g a = ev (prem g (lin a f)) a := by rw [← dv a, zF]; grind
        rw [rs_red tg tF ng (by omega)]
        by_cases zs : prem g (lin a f) = []
        · rw [if_pos zs, ea, zs, evq_nil]; grind
        · rw [if_neg zs, rs_lin a N f _ (by omega) tf (prem_tr _ _) nf zs, ← ea, cF]
          have C := rs_cong (p := g) (p' := prem g (lin a f)) (q := f) (w := pmul (pquo g (lin a f)) [-a, 1]) tg (prem_tr _ _) tf ng zs nf fun x => by
            rw [evq_pmul, ← dv x, lin_ev, evq_cons, ev_one]; grind
          have d1 := prem_dg (p := g) tg tF nF
          have e1 : lc f ^ dg g = lc f ^ (dg g - dg (prem g (lin a f))) * lc f ^ dg (prem g (lin a f)) := by
            rw [← pow_addR]; congr 1; omega
          have nz := pow_neR (tr_lc tf nf) (dg (prem g (lin a f)))
          rw [e1] at C
          generalize lc f ^ dg (prem g (lin a f)) = L at *
          generalize lc f ^ (dg g - dg (prem g (lin a f))) = M at *
          generalize rs f (prem g (lin a f)) = X at *
          have e2 : rs f g = X * M := by
            have : (rs f g - X * M) * L = 0 := by grind
            rcases Rat.mul_eq_zero.mp this with z | z
            · grind
            · exact absurd z nz
          rw [e2]; grind
      · have lr := rem_len (p := f) ng (tr_lc tg ng)
        have dv := fun x => div_ev (p := f) ng x
        rw [rs_sym tF tg nF ng, rs_sym tf tg nf ng, dF]
        by_cases zr : prem f g = []
        · have zF2 : prem (lin a f) g = [] := (div_uniq (p := lin a f) (q := g) (a := lin a (pquo f g)) (r := []) tg ng (lin_tr _ _) tr_nil (by simp) fun x => by
            rw [lin_ev, lin_ev, evq_nil, ← dv x, zr, evq_nil]; grind).2.symm
          rw [rs_red tF tg nF (by omega), if_pos zF2, rs_red tf tg nf (by omega), if_pos zr]; grind
        · have tr := prem_tr f g
          have ih := rs_lin a N (prem f g) g (by omega) tr tg zr ng
          have dR := lin_dg a tr zr
          have nR : lin a (prem f g) ≠ [] := fun z => by
            have := lin_len a tr zr
            rw [z] at this
            simp at this
          have C1 := rs_cong (p := lin a f) (p' := lin a (prem f g)) (q := g) (w := lin a (pquo f g)) tF (lin_tr _ _) tg nF nR ng fun x => by
            rw [lin_ev, lin_ev, lin_ev, ← dv x]; grind
          have C2 := rs_cong (p := f) (p' := prem f g) (q := g) (w := pquo f g) tf tr tg nf zr ng fun x => by
            rw [← dv x]; grind
          have S1 := rs_sym tg (lin_tr a (prem f g)) ng nR
          have S2 := rs_sym tr tg zr ng
          rw [ih, S2, dR] at S1
          rw [dF, dR, S1, Rat.pow_succ, Rat.pow_succ] at C1
          have nz := pow_neR (tr_lc tg ng) (dg (prem f g))
          have n1 := tr_lc tg ng
          have q1 := sgn_sq (dg (prem f g)) (dg g)
          have q2 := sgn_sq 1 (dg g)
          rw [sgn_add, sgn_comm (dg g), sgn_add] at *
          generalize sgn (dg (prem f g)) (dg g) = s1 at *
          generalize sgn 1 (dg g) = s2 at *
          generalize sgn (dg f) (dg g) = s3 at *
          generalize lc g ^ dg (prem f g) = L at *
          generalize lc g ^ dg f = M at *
          generalize rs g (prem f g) = X at *
          generalize rs g (lin a f) = Y at *
          generalize rs g f = Z at *
          generalize lc g = c at *
          generalize ev g a = e at *
          have e1 : Y * (L * c) = (s1 * s1) * (s2 * e * (X * M) * c) := by rw [C1]; grind
          rw [q1, ← C2] at e1
          have e2 : (Y - s2 * e * Z) * (L * c) = 0 := by grind
          have e3 : Y = s2 * e * Z := by
            rcases Rat.mul_eq_zero.mp e2 with z | z
            · grind
            · rcases Rat.mul_eq_zero.mp z with z | z
              · exact absurd z nz
              · exact absurd z n1
          rw [e3, show s3 * s2 * (s2 * e * Z) = s3 * (s2 * s2) * (e * Z) by grind, q2]; grind
end Mini
namespace Mini
def ofR (f : List Rat) (as : List Rat) : List Rat := as.foldl (fun f a => pmul f [-a, 1]) f
def prodR (f : Rat → Rat) : List Rat → Rat
  | [] => 1
  | a :: as => f a * prodR f as
theorem pmul_lin (a : Rat) (f : List Rat) : pmul f [-a, 1] = lin a f := evq_ext (pmul_tr _ _) (pmul_tr _ _) fun x => by rw [evq_pmul, lin_ev, evq_cons, ev_one]; grind
theorem lin_ne {f : List Rat} (a : Rat) (tf : Tr f) (nf : f ≠ []) : lin a f ≠ [] := fun z => by
  have := lin_len a tf nf
  rw [z] at this
  simp at this
theorem ofR_facts : ∀ (as f : List Rat), Tr f → f ≠ [] → Tr (ofR f as) ∧ ofR f as ≠ [] ∧ (ofR f as).length = f.length + as.length ∧ lc (ofR f as) = lc f ∧ (∀ x, ev (ofR f as) x = ev f x * prodR (fun a => x - a) as) ∧ ∀ g, Tr g → g ≠ [] → rs (ofR f as) g = rs f g * prodR (ev g) as
  | [], f, tf, nf => ⟨tf, nf, rfl, rfl, fun x => by
      show ev f x = ev f x * 1
      grind, fun g _ _ => by
      show rs f g = rs f g * 1
      grind⟩
  | a :: as, f, tf, nf => by
    have l := lin_len a tf nf
    obtain ⟨h1, h2, h3, h4, h5, h6⟩ := ofR_facts as (lin a f) (lin_tr a f) (lin_ne a tf nf)
    have e : ofR f (a :: as) = ofR (lin a f) as := by
      show ofR (pmul f [-a, 1]) as = _
      rw [pmul_lin]
    rw [e]
    refine ⟨h1, h2, by rw [h3, l, List.length_cons]; omega, by rw [h4, lin_lc a tf nf], fun x => ?_, fun g tg ng => ?_⟩
    · rw [h5, lin_ev]
      show _ = ev f x * ((x - a) * prodR (fun a => x - a) as)
      grind
    · rw [h6 g tg ng, rs_lin a _ f g (Nat.le_refl _) tf tg nf ng]
      show _ = rs f g * (ev g a * prodR (ev g) as)
      grind
theorem prodR_congr {f g : Rat → Rat} : ∀ {l : List Rat}, (∀ a, a ∈ l → f a = g a) → prodR f l = prodR g l
  | [], _ => rfl
  | a :: l, h => by
    show f a * prodR f l = g a * prodR g l
    rw [h a List.mem_cons_self, prodR_congr fun b hb => h b (List.mem_cons_of_mem _ hb)]
theorem prodR_scal (c : Rat) (f : Rat → Rat) : ∀ l : List Rat, prodR (fun a => c * f a) l = c ^ l.length * prodR f l
  | [] => by
    show (1 : Rat) = c ^ 0 * 1
    rw [Rat.pow_zero]; grind
  | a :: l => by
    show c * f a * prodR (fun a => c * f a) l = c ^ (l.length + 1) * (f a * prodR f l)
    rw [prodR_scal c f l, Rat.pow_succ]; grind
theorem rs_roots {p q : Rat} (hp : p ≠ 0) (hq : q ≠ 0) (as bs : List Rat) : rs (ofR [p] as) (ofR [q] bs) = p ^ bs.length * q ^ as.length * prodR (fun a => prodR (fun b => a - b) bs) as := by
  have tp : Tr [p] := .inr hp
  have tq : Tr [q] := .inr hq
  obtain ⟨h1, h2, h3, h4, h5, h6⟩ := ofR_facts as [p] tp (by simp)
  obtain ⟨g1, g2, g3, g4, g5, g6⟩ := ofR_facts bs [q] tq (by simp)
  rw [h6 _ g1 g2, rs_const g2 g1 tp rfl, show dg (ofR [q] bs) = bs.length by unfold dg; rw [g3]; simp, show lc [p] = p from rfl,
    prodR_congr (g := fun a => q * prodR (fun b => a - b) bs) fun a _ => by rw [g5, ev_one], prodR_scal]
  grind
end Mini
namespace Mini
def rt (l : List Rat) : List Rat := ofR [1] l
theorem tr1 : Tr [1] := .inr (by show (1 : Rat) ≠ 0; decide)
theorem rt_tr (l : List Rat) : Tr (rt l) := (ofR_facts l [1] tr1 (by simp)).1
theorem rt_ne (l : List Rat) : rt l ≠ [] := (ofR_facts l [1] tr1 (by simp)).2.1
theorem rt_len (l : List Rat) : (rt l).length = l.length + 1 := by
  have := (ofR_facts l [1] tr1 (by simp)).2.2.1
  unfold rt
  rw [this]; simp; omega
theorem rt_lc (l : List Rat) : lc (rt l) = 1 := (ofR_facts l [1] tr1 (by simp)).2.2.2.1
theorem rt_ev (l : List Rat) (x : Rat) : ev (rt l) x = prodR (fun a => x - a) l := by
  have := (ofR_facts l [1] tr1 (by simp)).2.2.2.2.1 x
  unfold rt
  rw [this, ev_one]; grind
theorem prodR_perm {f : Rat → Rat} {l m : List Rat} (h : l.Perm m) : prodR f l = prodR f m := by
  induction h with
  | nil => rfl
  | cons x _ ih => show f x * _ = f x * _; rw [ih]
  | swap x y l => show f y * (f x * _) = f x * (f y * _); grind
  | trans _ _ i j => rw [i, j]
theorem rt_perm {l m : List Rat} (h : l.Perm m) : rt l = rt m := evq_ext (rt_tr _) (rt_tr _) fun x => by rw [rt_ev, rt_ev, prodR_perm h]
theorem rt_cons (a : Rat) (l : List Rat) : rt (a :: l) = lin a (rt l) := evq_ext (rt_tr _) (lin_tr _ _) fun x => by rw [rt_ev, lin_ev, rt_ev]; rfl
theorem root_out {d : List Rat} {a : Rat} (td : Tr d) (nd : d ≠ []) (h : ev d a = 0) : ∃ e, Tr e ∧ e ≠ [] ∧ d = lin a e ∧ lc e = lc d := by
  have e1 := syn_ev a d
  refine ⟨trim (syn a d), trim_tr _, ?_, ?_, ?_⟩
  · intro z
    refine nd (evq_ext td tr_nil fun x => ?_)
    rw [e1 x, h, ← evq_trim (syn a d), z, evq_nil]; grind
  · exact evq_ext td (lin_tr _ _) fun x => by rw [lin_ev, evq_trim, e1 x, h]; grind
  · have e : d = lin a (trim (syn a d)) := evq_ext td (lin_tr _ _) fun x => by rw [lin_ev, evq_trim, e1 x, h]; grind
    have ne : trim (syn a d) ≠ [] := by
      intro z
      refine nd (evq_ext td tr_nil fun x => ?_)
      rw [e1 x, h, ← evq_trim (syn a d), z, evq_nil]; grind
    have := lin_lc a (trim_tr (syn a d)) ne
    rw [← e] at this
    exact this.symm
theorem lin_inj {a : Rat} {p q : List Rat} (tp : Tr p) (tq : Tr q) (h : ∀ x, (x - a) * ev p x = (x - a) * ev q x) : p = q := by
  have e : psub p q = [] := by
    apply Classical.byContradiction
    intro z
    have := lin_ne a (psub_tr p q) z
    apply this
    refine evq_ext (lin_tr _ _) tr_nil fun x => ?_
    rw [lin_ev, evq_psub, evq_nil]
    have := h x
    grind
  refine evq_ext tp tq fun x => ?_
  have := evq_psub p q x
  rw [e, evq_nil] at this
  grind
theorem rt_div : ∀ (l d w : List Rat), Tr d → Tr w → lc d = 1 → (∀ x, ev (rt l) x = ev d x * ev w x) → ∃ l1 l2, (l1 ++ l2).Perm l ∧ d = rt l1
  | [], d, w, td, tw, h1, h => by
    have nd : d ≠ [] := fun z => by rw [z] at h1; exact absurd h1 (by show (0 : Rat) ≠ 1; decide)
    have nw : w ≠ [] := fun z => by
      have := h 0
      rw [z, evq_nil, rt_ev] at this
      have e : (1 : Rat) = ev d 0 * 0 := this
      grind
    have e : pmul d w = rt [] := evq_ext (pmul_tr _ _) (rt_tr _) fun x => by rw [evq_pmul, h x]
    have l := pmul_length td tw nd nw
    rw [e, rt_len] at l
    have a1 := List.length_pos_iff.mpr nd
    have a2 := List.length_pos_iff.mpr nw
    obtain ⟨c, rfl⟩ := List.length_eq_one_iff.mp (show d.length = 1 by simp at l; omega)
    have h1 : c = 1 := h1
    subst h1
    exact ⟨[], [], by simp, rfl⟩
  | a :: l, d, w, td, tw, h1, h => by
    have nd : d ≠ [] := fun z => by rw [z] at h1; exact absurd h1 (by show (0 : Rat) ≠ 1; decide)
    have nw : w ≠ [] := fun z => by
      refine rt_ne (a :: l) (evq_ext (rt_tr _) tr_nil fun x => ?_)
      rw [h x, z, evq_nil]; grind
    have z : ev d a * ev w a = 0 := by
      rw [← h a, rt_cons, lin_ev]; grind
    rcases Rat.mul_eq_zero.mp z with z | z
    · obtain ⟨e, te, ne, rfl, le⟩ := root_out td nd z
      obtain ⟨l1, l2, p, q⟩ := rt_div l e w te tw (by rw [le, h1]) fun x => by
        have := lin_inj (a := a) (p := rt l) (q := pmul e w) (rt_tr _) (pmul_tr _ _) fun x => by
          have := h x
          rw [rt_cons, lin_ev, lin_ev] at this
          rw [this, evq_pmul]; grind
        rw [this, evq_pmul]
      exact ⟨a :: l1, l2, by simpa using List.Perm.cons a p, by rw [rt_cons, q]⟩
    · obtain ⟨e, te, ne, rfl, le⟩ := root_out tw nw z
      obtain ⟨l1, l2, p, q⟩ := rt_div l d e td te h1 fun x => by
        have := lin_inj (a := a) (p := rt l) (q := pmul d e) (rt_tr _) (pmul_tr _ _) fun x => by
          have := h x
          rw [rt_cons, lin_ev, lin_ev] at this
          rw [this, evq_pmul]; grind
        rw [this, evq_pmul]
      refine ⟨l1, a :: l2, ?_, q⟩
      exact (List.perm_middle).trans (List.Perm.cons a p)
end Mini
namespace Mini
theorem prodR_zero {a : Rat} : ∀ {l : List Rat}, prodR (fun b => a - b) l = 0 → a ∈ l
  | [], h => absurd h (by show (1 : Rat) ≠ 0; decide)
  | b :: l, h => by
    have h : (a - b) * prodR (fun b => a - b) l = 0 := h
    rcases Rat.mul_eq_zero.mp h with z | z
    · have : a = b := by grind
      rw [this]; exact List.mem_cons_self
    · exact List.mem_cons_of_mem _ (prodR_zero z)
theorem rt_root {a : Rat} {l : List Rat} : ev (rt l) a = 0 ↔ a ∈ l := by
  refine ⟨fun h => prodR_zero (by rw [← rt_ev, h]), fun h => ?_⟩
  have p := List.perm_cons_erase h
  rw [rt_perm p, rt_cons, lin_ev]; grind
theorem rt_inj : ∀ (l m : List Rat), rt l = rt m → l.Perm m
  | [], m, h => by
    have := congrArg List.length h
    rw [rt_len, rt_len, List.length_nil] at this
    have : m = [] := List.length_eq_zero_iff.mp (by omega)
    rw [this]
  | a :: l, m, h => by
    have hm : a ∈ m := rt_root.mp (by rw [← h]; exact rt_root.mpr List.mem_cons_self)
    have p := List.perm_cons_erase hm
    have e : rt l = rt (m.erase a) := lin_inj (a := a) (rt_tr _) (rt_tr _) fun x => by
      rw [← lin_ev, ← lin_ev, ← rt_cons, ← rt_cons, h, rt_perm p]
    exact (List.Perm.cons a (rt_inj l _ e)).trans p.symm
def meet : List Rat → List Rat → List Rat
  | [], _ => []
  | a :: l, m => if a ∈ m then a :: meet l (m.erase a) else meet l m
theorem meet_count (b : Rat) : ∀ (l m : List Rat), (meet l m).count b = min (l.count b) (m.count b)
  | [], m => by simp [meet]
  | a :: l, m => by
    unfold meet
    by_cases h : a ∈ m
    · rw [if_pos h, List.count_cons, List.count_cons, meet_count b l, List.count_erase]
      have hp : 0 < m.count a := List.count_pos_iff.mpr h
      by_cases e : a = b
      · subst e
        simp
        omega
      · have e2 : ¬ (a == b) = true := by simpa using e
        have e3 : ¬ (b == a) = true := by simpa using fun z => e z.symm
        simp [e2, e3, e]
    · rw [if_neg h, List.count_cons, meet_count b l]
      by_cases e : a = b
      · subst e
        have := List.count_eq_zero.mpr h
        simp [this]
      · have e2 : ¬ (a == b) = true := by simpa using e
        simp [e2, e]
end Mini
namespace Mini
theorem lc_mon {p : List Rat} (t : Tr p) (n : p ≠ []) : lc (pscal p (1 / lc p)) = 1 := by
  have l0 := tr_lc t n
  have c0 : 1 / lc p ≠ 0 := fun z => by
    have : lc p * (1 / lc p) = 1 := by grind
    rw [z] at this
    grind
  rw [scal_lc t c0]; grind
theorem sub_perm : ∀ (k l : List Rat), (∀ a, k.count a ≤ l.count a) → ∃ l', (k ++ l').Perm l
  | [], l, _ => ⟨l, List.Perm.refl _⟩
  | a :: k, l, h => by
    have ha := h a
    rw [List.count_cons_self] at ha
    have hm : a ∈ l := List.count_pos_iff.mp (by omega)
    have p := List.perm_cons_erase hm
    obtain ⟨l', q⟩ := sub_perm k (l.erase a) fun b => by
      have hb := h b
      rw [List.count_cons] at hb
      rw [List.count_erase]
      by_cases e : a = b
      · subst e
        simp at hb ⊢
        omega
      · have e2 : ¬ (a == b) = true := by simpa using e
        have e3 : ¬ (b == a) = true := by simpa using fun z => e z.symm
        simp [e2] at hb
        simp [e3, e]
        exact hb
    exact ⟨l', (List.Perm.cons a q).trans p.symm⟩
theorem prodR_append (f : Rat → Rat) : ∀ l m : List Rat, prodR f (l ++ m) = prodR f l * prodR f m
  | [], m => by
    show prodR f m = 1 * prodR f m
    grind
  | a :: l, m => by
    show f a * prodR f (l ++ m) = f a * prodR f l * prodR f m
    rw [prodR_append f l m]; grind
theorem rt_append (l m : List Rat) (x : Rat) : ev (rt (l ++ m)) x = ev (rt l) x * ev (rt m) x := by rw [rt_ev, rt_ev, rt_ev, prodR_append]
theorem rt_sub {k l : List Rat} (h : ∀ a, k.count a ≤ l.count a) : ∃ w, ∀ x, ev (rt l) x = ev (rt k) x * ev w x := by
  obtain ⟨l', p⟩ := sub_perm k l h
  exact ⟨rt l', fun x => by rw [← rt_perm p, rt_append]⟩
theorem div_count {l d w : List Rat} {k : List Rat} (tw : Tr w) (e : d = rt k) (h : ∀ x, ev (rt l) x = ev d x * ev w x) (a : Rat) : k.count a ≤ l.count a := by
  obtain ⟨l1, l2, p, q⟩ := rt_div l d w (by rw [e]; exact rt_tr _) tw (by rw [e]; exact rt_lc _) h
  have r := rt_inj k l1 (by rw [← e, q])
  rw [r.count_eq a, ← p.count_eq a, List.count_append]
  omega
theorem rt_gcd {l m : List Rat} {n : Nat} (hn : m.length < n) : pscal (gcdP n (rt l) (rt m)) (1 / lc (gcdP n (rt l) (rt m))) = rt (meet l m) := by
  have ln := rt_len m
  have gn := gcdP_ne n (rt l) (rt m) (rt_tr _) (by omega) (.inl (rt_ne _))
  have gt := gcdP_tr n (rt l) (rt m) (rt_tr _) (rt_tr _)
  obtain ⟨⟨u, hu⟩, v, hv⟩ := gcdP_dvd n (rt l) (rt m) (rt_tr _) (by omega)
  have hm := exG_made (rt l) (rt m) n (rt l) (rt m) ([1], []) ([], [1]) (fun x => by
    show ev [1] x * ev (rt l) x + ev [] x * ev (rt m) x = _
    rw [ev_one, evq_nil]; grind) (fun x => by
    show ev [] x * ev (rt l) x + ev [1] x * ev (rt m) x = _
    rw [ev_one, evq_nil]; grind)
  rw [exG_gcd] at hm
  generalize (exG n (rt l) (rt m) ([1], []) ([], [1])).2.1 = U at *
  generalize (exG n (rt l) (rt m) ([1], []) ([], [1])).2.2 = V at *
  generalize gcdP n (rt l) (rt m) = R at *
  have l0 := tr_lc gt gn
  have c1 : lc R * (1 / lc R) = 1 := by grind
  have tG := pscal_tr R (1 / lc R)
  have lG := lc_mon gt gn
  have dl : ∀ x, ev (rt l) x = ev (pscal R (1 / lc R)) x * ev (trim (pscal u (lc R))) x := fun x => by
    rw [evq_trim, evq_pscal, evq_pscal, hu x, show ev R x * (1 / lc R) * (ev u x * lc R) = ev R x * ev u x * (lc R * (1 / lc R)) by grind, c1]; grind
  have dm : ∀ x, ev (rt m) x = ev (pscal R (1 / lc R)) x * ev (trim (pscal v (lc R))) x := fun x => by
    rw [evq_trim, evq_pscal, evq_pscal, hv x, show ev R x * (1 / lc R) * (ev v x * lc R) = ev R x * ev v x * (lc R * (1 / lc R)) by grind, c1]; grind
  obtain ⟨k, k2, p, q⟩ := rt_div l _ _ tG (trim_tr _) lG dl
  have c_l := div_count (l := l) (trim_tr _) q dl
  have c_m := div_count (l := m) (trim_tr _) q dm
  obtain ⟨w1, hw1⟩ := rt_sub (k := meet l m) (l := l) fun a => by rw [meet_count]; omega
  obtain ⟨w2, hw2⟩ := rt_sub (k := meet l m) (l := m) fun a => by rw [meet_count]; omega
  have up : ∀ x, ev (rt k) x = ev (rt (meet l m)) x * ev (trim (pscal (padd (pmul U w1) (pmul V w2)) (1 / lc R))) x := fun x => by
    rw [← q, evq_trim, evq_pscal, evq_pscal, evq_padd, evq_pmul, evq_pmul, ← hm x, hw1 x, hw2 x]; grind
  have c_k := div_count (l := k) (trim_tr _) rfl up
  rw [q]
  exact rt_perm (List.perm_iff_count.mpr fun a => by
    have h1 := c_l a
    have h2 := c_m a
    have h3 := c_k a
    rw [meet_count] at h3 ⊢
    omega)
end Mini
namespace Mini
def dd : List Rat → List Rat
  | [] => []
  | a :: l => if a ∈ l then a :: dd l else dd l
theorem dd_count (b : Rat) : ∀ l : List Rat, (dd l).count b = l.count b - 1
  | [] => by simp [dd]
  | a :: l => by
    unfold dd
    by_cases h : a ∈ l
    · rw [if_pos h, List.count_cons, List.count_cons, dd_count b l]
      have hp : 0 < l.count a := List.count_pos_iff.mpr h
      by_cases e : a = b
      · subst e
        simp
        omega
      · have e2 : ¬ (a == b) = true := by simpa using e
        simp [e2]
    · rw [if_neg h, List.count_cons, dd_count b l]
      by_cases e : a = b
      · subst e
        have := List.count_eq_zero.mpr h
        simp [this]
      · have e2 : ¬ (a == b) = true := by simpa using e
        simp [e2]
theorem dv_lin (a : Rat) (f : List Rat) (x : Rat) : dv (lin a f) x = ev f x + (x - a) * dv f x := by
  unfold lin
  rw [dv_pmul, evq_cons, ev_one, dv_cons, ev_one, dv_cons, evq_nil]
  show (1 + x * (0 + x * dv [] x)) * ev f x + (-a + x * 1) * dv f x = _
  have : dv [] x = 0 := rfl
  rw [this]; grind
theorem dd_slope : ∀ l : List Rat, ∃ w, ∀ x, dv (rt l) x = ev (rt (dd l)) x * ev w x
  | [] => ⟨[], fun x => by
    rw [evq_nil]
    show dv (rt []) x = _
    have : dv (rt []) x = 0 := by
      show dv [1] x = 0
      show (0 : Rat) + x * dv [] x = 0
      have : dv [] x = 0 := rfl
      rw [this]; grind
    rw [this]; grind⟩
  | a :: l => by
    obtain ⟨w, hw⟩ := dd_slope l
    unfold dd
    by_cases h : a ∈ l
    · rw [if_pos h]
      obtain ⟨v, hv⟩ := rt_sub (k := a :: dd l) (l := l) fun b => by
        have hp : 0 < l.count a := List.count_pos_iff.mpr h
        rw [List.count_cons, dd_count]
        by_cases e : a = b
        · subst e
          simp
          omega
        · have e2 : ¬ (a == b) = true := by simpa using e
          simp [e2]
      refine ⟨padd v w, fun x => ?_⟩
      rw [rt_cons, dv_lin, hv x, hw x, evq_padd, rt_cons, lin_ev]; grind
    · rw [if_neg h]
      obtain ⟨v, hv⟩ := rt_sub (k := dd l) (l := l) fun b => by rw [dd_count]; omega
      refine ⟨padd v (pmul [-a, 1] w), fun x => ?_⟩
      rw [rt_cons, dv_lin, hv x, hw x, evq_padd, evq_pmul, evq_cons, ev_one]; grind
end Mini
namespace Mini
theorem dv_one (x : Rat) : dv (rt []) x = 0 := by
  show dv [1] x = 0
  show (0 : Rat) + x * dv [] x = 0
  have : dv [] x = 0 := rfl
  rw [this]; grind
theorem rt_rep (a : Rat) (x : Rat) : ∀ c : Nat, ev (rt (List.replicate c a)) x = (x - a) ^ c
  | 0 => by
    rw [rt_ev, Rat.pow_zero]; rfl
  | c + 1 => by
    rw [List.replicate_succ, rt_cons, lin_ev, rt_rep a x c, Rat.pow_succ]; grind
theorem dv_rep (a : Rat) (x : Rat) : ∀ c : Nat, dv (rt (List.replicate (c + 1) a)) x = ((c + 1 : Nat) : Rat) * (x - a) ^ c
  | 0 => by
    show dv (rt [a]) x = _
    rw [rt_cons, dv_lin, dv_one, rt_ev, Rat.pow_zero]
    show (1 : Rat) + (x - a) * 0 = ((1 : Nat) : Rat) * 1
    have : ((1 : Nat) : Rat) = 1 := rfl
    rw [this]; grind
  | c + 1 => by
    rw [List.replicate_succ, rt_cons, dv_lin, dv_rep a x c, rt_rep, Rat.pow_succ]
    have : ((c + 1 + 1 : Nat) : Rat) = ((c + 1 : Nat) : Rat) + 1 := by rw [Rat.natCast_add]; rfl
    rw [this]; grind
theorem ev_cancel {q u v : List Rat} (tq : Tr q) (nq : q ≠ []) (h : ∀ x, ev q x * ev u x = ev q x * ev v x) (x : Rat) : ev u x = ev v x := by
  have e : pmul (psub u v) q = [] := evq_ext (pmul_tr _ _) tr_nil fun x => by
    rw [evq_pmul, evq_psub, evq_nil]
    have := h x
    grind
  have z := (pmul_eq_nil (psub_tr u v) tq nq).mp e
  have := evq_psub u v x
  rw [z, evq_nil] at this
  grind
theorem slope_not {l : List Rat} {a : Rat} {w : List Rat} {c : Nat} (hc : l.count a = c + 1) (h : ∀ x, dv (rt l) x = (x - a) ^ (c + 1) * ev w x) : False := by
  obtain ⟨l', p⟩ := sub_perm (List.replicate (c + 1) a) l fun b => by
    rw [List.count_replicate]
    split
    · rename_i e
      have : a = b := by simpa using e
      subst this
      omega
    · omega
  have na : a ∉ l' := fun z => by
    have := p.count_eq a
    rw [List.count_append, List.count_replicate_self] at this
    have := List.count_pos_iff.mpr z
    omega
  have e1 : rt l = pmul (rt (List.replicate (c + 1) a)) (rt l') := evq_ext (rt_tr _) (pmul_tr _ _) fun x => by rw [← rt_perm p, rt_append, evq_pmul]
  have n0 : ev (rt l') a ≠ 0 := fun z => na (rt_root.mp z)
  have key : ∀ x, ((c + 1 : Nat) : Rat) * (x - a) ^ c * ev (rt l') x = (x - a) ^ c * ((x - a) * (ev w x - dv (rt l') x)) := fun x => by
    have := h x
    rw [e1, dv_pmul, dv_rep, rt_rep, Rat.pow_succ] at this
    grind
  have k2 := ev_cancel (q := rt (List.replicate c a)) (u := pscal (rt l') ((c + 1 : Nat) : Rat)) (v := lin a (psub w (pslope (rt l')))) (rt_tr _) (rt_ne _) (fun x => by
    rw [rt_rep, evq_pscal, lin_ev, evq_psub, evq_pslope]
    have := key x
    grind) a
  rw [evq_pscal, lin_ev] at k2
  have c0 : ((c + 1 : Nat) : Rat) ≠ 0 := fun z => by
    have := Rat.natCast_eq_zero_iff.mp z
    omega
  rcases Rat.mul_eq_zero.mp (show ev (rt l') a * ((c + 1 : Nat) : Rat) = 0 by rw [k2]; grind) with z | z
  · exact n0 z
  · exact c0 z
end Mini
namespace Mini
theorem rt_gcd_slope {l : List Rat} {n : Nat} (hn : (pslope (rt l)).length ≤ n) : pscal (gcdP n (rt l) (pslope (rt l))) (1 / lc (gcdP n (rt l) (pslope (rt l)))) = rt (dd l) := by
  have ts := pslope_tr (rt l)
  have gn := gcdP_ne n (rt l) (pslope (rt l)) ts hn (.inl (rt_ne _))
  have gt := gcdP_tr n (rt l) (pslope (rt l)) (rt_tr _) ts
  obtain ⟨⟨u, hu⟩, v, hv⟩ := gcdP_dvd n (rt l) (pslope (rt l)) ts hn
  have hm := exG_made (rt l) (pslope (rt l)) n (rt l) (pslope (rt l)) ([1], []) ([], [1]) (fun x => by
    show ev [1] x * ev (rt l) x + ev [] x * ev (pslope (rt l)) x = _
    rw [ev_one, evq_nil]; grind) (fun x => by
    show ev [] x * ev (rt l) x + ev [1] x * ev (pslope (rt l)) x = _
    rw [ev_one, evq_nil]; grind)
  rw [exG_gcd] at hm
  generalize (exG n (rt l) (pslope (rt l)) ([1], []) ([], [1])).2.1 = U at *
  generalize (exG n (rt l) (pslope (rt l)) ([1], []) ([], [1])).2.2 = V at *
  generalize gcdP n (rt l) (pslope (rt l)) = R at *
  have l0 := tr_lc gt gn
  have c1 : lc R * (1 / lc R) = 1 := by grind
  have tG := pscal_tr R (1 / lc R)
  have lG := lc_mon gt gn
  have dl : ∀ x, ev (rt l) x = ev (pscal R (1 / lc R)) x * ev (trim (pscal u (lc R))) x := fun x => by
    rw [evq_trim, evq_pscal, evq_pscal, hu x, show ev R x * (1 / lc R) * (ev u x * lc R) = ev R x * ev u x * (lc R * (1 / lc R)) by grind, c1]; grind
  have dm : ∀ x, dv (rt l) x = ev (pscal R (1 / lc R)) x * ev (pscal v (lc R)) x := fun x => by
    rw [← evq_pslope, evq_pscal, evq_pscal, hv x, show ev R x * (1 / lc R) * (ev v x * lc R) = ev R x * ev v x * (lc R * (1 / lc R)) by grind, c1]; grind
  obtain ⟨k, k2, p, q⟩ := rt_div l _ _ tG (trim_tr _) lG dl
  have c_l := div_count (l := l) (trim_tr _) q dl
  obtain ⟨w1, hw1⟩ := rt_sub (k := dd l) (l := l) fun a => by rw [dd_count]; omega
  obtain ⟨w2, hw2⟩ := dd_slope l
  have up : ∀ x, ev (rt k) x = ev (rt (dd l)) x * ev (trim (pscal (padd (pmul U w1) (pmul V w2)) (1 / lc R))) x := fun x => by
    rw [← q, evq_trim, evq_pscal, evq_pscal, evq_padd, evq_pmul, evq_pmul, ← hm x, evq_pslope, hw1 x, hw2 x]; grind
  have c_k := div_count (l := k) (trim_tr _) rfl up
  rw [q]
  exact rt_perm (List.perm_iff_count.mpr fun a => by
    have h1 := c_l a
    have h3 := c_k a
    rw [dd_count] at h3 ⊢
    by_cases z : k.count a ≤ l.count a - 1
    · omega
    · exfalso
      obtain ⟨c, hc⟩ : ∃ c, l.count a = c + 1 := ⟨l.count a - 1, by omega⟩
      obtain ⟨w, hw⟩ := rt_sub (k := List.replicate (c + 1) a) (l := k) fun b => by
        rw [List.count_replicate]
        split
        · rename_i e
          have : a = b := by simpa using e
          subst this
          omega
        · omega
      exact slope_not (w := pmul w (pscal v (lc R))) hc fun x => by
        rw [dm x, q, hw x, rt_rep, evq_pmul]; grind)
end Mini
namespace Mini
theorem rt_quo {l m r : List Rat} (h : (m ++ r).Perm l) : pquo (rt l) (rt m) = rt r ∧ prem (rt l) (rt m) = [] := by
  have := div_uniq (p := rt l) (q := rt m) (a := rt r) (r := []) (rt_tr _) (rt_ne _) (rt_tr _) tr_nil (by simp) fun x => by
    rw [← rt_perm h, rt_append, evq_nil]; grind
  exact ⟨this.1.symm, this.2.symm⟩
structure Apt (l r s : List Rat) (k : Nat) : Prop where
  cr : ∀ a, r.count a = if k ≤ l.count a then 1 else 0
  cs : ∀ a, s.count a = l.count a - k
theorem Apt.next {l r s : List Rat} {k : Nat} (h : Apt l r s k) : ∃ t s', (meet r s ++ t).Perm r ∧ (meet r s ++ s').Perm s ∧ Apt l (meet r s) s' (k + 1) ∧ ∀ a, t.count a = if l.count a = k then 1 else 0 := by
  have mc : ∀ a, (meet r s).count a = if k + 1 ≤ l.count a then 1 else 0 := fun a => by
    rw [meet_count, h.cr, h.cs]
    by_cases h1 : k ≤ l.count a
    · rw [if_pos h1]
      split <;> omega
    · rw [if_neg h1, if_neg (by omega)]
      omega
  obtain ⟨t, p⟩ := sub_perm (meet r s) r fun a => by rw [meet_count]; omega
  obtain ⟨s', q⟩ := sub_perm (meet r s) s fun a => by rw [meet_count]; omega
  refine ⟨t, s', p, q, ⟨mc, fun a => ?_⟩, fun a => ?_⟩
  · have := q.count_eq a
    rw [List.count_append, mc, h.cs] at this
    split at this <;> omega
  · have := p.count_eq a
    rw [List.count_append, mc, h.cr] at this
    by_cases h1 : l.count a = k
    · rw [if_pos h1]
      rw [if_neg (by omega), if_pos (by omega)] at this
      omega
    · rw [if_neg h1]
      by_cases h2 : k ≤ l.count a
      · rw [if_pos (by omega), if_pos h2] at this
        omega
      · rw [if_neg (by omega), if_neg h2] at this
        omega
end Mini
namespace Mini
theorem pscal_pscal (p : List Rat) (a b : Rat) : pscal (pscal p a) b = pscal p (a * b) := evq_ext (pscal_tr _ _) (pscal_tr _ _) fun x => by rw [evq_pscal, evq_pscal, evq_pscal]; grind
theorem pscal_1 {p : List Rat} (t : Tr p) : pscal p 1 = p := evq_ext (pscal_tr _ _) t fun x => by rw [evq_pscal]; grind
theorem gcdP_scal : ∀ (n : Nat) (p q : List Rat) (a b : Rat), Tr p → Tr q → a ≠ 0 → b ≠ 0 → ∃ c, c ≠ 0 ∧ gcdP n (pscal p a) (pscal q b) = pscal (gcdP n p q) c
  | 0, p, q, a, b, _, _, ha, _ => ⟨a, ha, rfl⟩
  | n + 1, p, q, a, b, tp, tq, ha, hb => by
    unfold gcdP
    by_cases z : q = []
    · rw [if_pos z, if_pos ((scal_ne tq hb).mpr z)]
      exact ⟨a, ha, rfl⟩
    · rw [if_neg z, if_neg fun y => z ((scal_ne tq hb).mp y), prem_scal2 tq z hb, prem_scal1 tq z]
      exact gcdP_scal n q (prem p q) b a tq (prem_tr _ _) hb ha
theorem mon_scal {p : List Rat} {c : Rat} (t : Tr p) (n : p ≠ []) (hc : c ≠ 0) : pscal (pscal p c) (1 / lc (pscal p c)) = pscal p (1 / lc p) := by
  rw [pscal_pscal, scal_lc t hc]
  congr 1
  have := tr_lc t n
  grind
theorem ofR_scal {p : Rat} (hp : p ≠ 0) (l : List Rat) : ofR [p] l = pscal (rt l) p := by
  obtain ⟨h1, _, _, _, h5, _⟩ := ofR_facts l [p] (.inr hp) (by simp)
  exact evq_ext h1 (pscal_tr _ _) fun x => by rw [h5, evq_pscal, rt_ev, ev_one]; grind
theorem mon_f {p : Rat} (hp : p ≠ 0) (l : List Rat) : pscal (pscal (rt l) p) (1 / lc (pscal (rt l) p)) = rt l := by
  rw [mon_scal (rt_tr _) (rt_ne _) hp, rt_lc, show (1 : Rat) / 1 = 1 by grind, pscal_1 (rt_tr _)]
theorem gcd_fg {p q : Rat} (hp : p ≠ 0) (hq : q ≠ 0) {l m : List Rat} {n : Nat} (hn : m.length < n) :
    pscal (gcdP n (pscal (rt l) p) (pscal (rt m) q)) (1 / lc (gcdP n (pscal (rt l) p) (pscal (rt m) q))) = rt (meet l m) := by
  obtain ⟨c, hc, e⟩ := gcdP_scal n (rt l) (rt m) p q (rt_tr _) (rt_tr _) hp hq
  have ln := rt_len m
  rw [e, mon_scal (gcdP_tr n _ _ (rt_tr _) (rt_tr _)) (gcdP_ne n _ _ (rt_tr _) (by omega) (.inl (rt_ne _))) hc, rt_gcd hn]
theorem slope_scal (f : List Rat) (p : Rat) : pslope (pscal f p) = pscal (pslope f) p := tr_ext (pslope_tr _) (pscal_tr _ _) fun k => by
  rw [cf_pslope, cf_pscal, cf_pscal, cf_pslope]; grind
theorem gcd_fs {p : Rat} (hp : p ≠ 0) {l : List Rat} {n : Nat} (hn : (pslope (rt l)).length ≤ n) :
    pscal (gcdP n (pscal (rt l) p) (pslope (pscal (rt l) p))) (1 / lc (gcdP n (pscal (rt l) p) (pslope (pscal (rt l) p)))) = rt (dd l) := by
  rw [slope_scal]
  obtain ⟨c, hc, e⟩ := gcdP_scal n (rt l) (pslope (rt l)) p p (rt_tr _) (pslope_tr _) hp hp
  rw [e, mon_scal (gcdP_tr n _ _ (rt_tr _) (pslope_tr _)) (gcdP_ne n _ _ (pslope_tr _) hn (.inl (rt_ne _))) hc, rt_gcd_slope hn]
def us : List Rat → List Rat
  | [] => []
  | a :: l => if a ∈ l then us l else a :: us l
theorem us_count (b : Rat) : ∀ l : List Rat, (us l).count b = if b ∈ l then 1 else 0
  | [] => by simp [us]
  | a :: l => by
    unfold us
    split
    · rename_i h
      rw [us_count b l]
      by_cases e : b = a
      · subst e; rw [if_pos h, if_pos List.mem_cons_self]
      · by_cases h2 : b ∈ l
        · rw [if_pos h2, if_pos (List.mem_cons_of_mem _ h2)]
        · rw [if_neg h2, if_neg (by simp [e, h2])]
    · rename_i h
      by_cases e : b = a
      · subst e
        rw [List.count_cons_self, us_count b l, if_neg h, if_pos List.mem_cons_self]
      · rw [List.count_cons_of_ne (fun z => e z.symm), us_count b l]
        by_cases h2 : b ∈ l
        · rw [if_pos h2, if_pos (List.mem_cons_of_mem _ h2)]
        · rw [if_neg h2, if_neg (by simp [e, h2])]
def tK (l : List Rat) (k : Nat) : List Rat := (us l).filter fun a => l.count a == k
theorem tK_count (l : List Rat) {k : Nat} (hk : 1 ≤ k) (a : Rat) : (tK l k).count a = if l.count a = k then 1 else 0 := by
  unfold tK
  by_cases h : l.count a = k
  · rw [List.count_filter (by simpa using h), us_count, if_pos h, if_pos (List.count_pos_iff.mp (by omega))]
  · rw [if_neg h]
    refine List.count_eq_zero.mpr fun z => h ?_
    have := (List.mem_filter.mp z).2
    simpa using this
theorem tK_mem (l : List Rat) {k : Nat} (hk : 1 ≤ k) (a : Rat) : a ∈ tK l k ↔ l.count a = k := by
  rw [← List.count_pos_iff, tK_count l hk]
  split
  · rename_i h
    exact ⟨fun _ => h, fun _ => by omega⟩
  · rename_i h
    exact ⟨fun z => by omega, fun z => absurd z h⟩
theorem apt_one {l r : List Rat} (h : (dd l ++ r).Perm l) : Apt l r (dd l) 1 := by
  refine ⟨fun a => ?_, fun a => dd_count a l⟩
  have := h.count_eq a
  rw [List.count_append, dd_count] at this
  split <;> omega
theorem dd_perm (l : List Rat) : ∃ r, (dd l ++ r).Perm l := sub_perm (dd l) l fun a => by rw [dd_count]; omega
theorem tK_perm {l t : List Rat} {k : Nat} (hk : 1 ≤ k) (h : ∀ a, t.count a = if l.count a = k then 1 else 0) : t.Perm (tK l k) :=
  List.perm_iff_count.mpr fun a => by rw [h, tK_count l hk]
theorem dd_nil {t : List Rat} (h : ∀ a, t.count a ≤ 1) : dd t = [] := by
  rcases Classical.em (dd t = []) with z | z
  · exact z
  · obtain ⟨a, m, e⟩ := List.exists_cons_of_ne_nil z
    have h1 := dd_count a t
    rw [e, List.count_cons_self] at h1
    have := h a
    omega
theorem mem_cnt {m l : List Rat} (h : ∀ a, m.count a ≤ l.count a) {a : Rat} (ha : a ∈ m) : a ∈ l := List.count_pos_iff.mp (Nat.lt_of_lt_of_le (List.count_pos_iff.mpr ha) (h a))
theorem len_cnt {m l : List Rat} (h : ∀ a, m.count a ≤ l.count a) : m.length ≤ l.length := by
  obtain ⟨l', p⟩ := sub_perm m l h
  have := p.length_eq
  rw [List.length_append] at this
  omega
theorem Apt.nil {l r s : List Rat} {k : Nat} (A : Apt l r s k) (h : l.length < k) : r = [] := by
  rcases Classical.em (r = []) with z | z
  · exact z
  · obtain ⟨a, m, e⟩ := List.exists_cons_of_ne_nil z
    have h1 := A.cr a
    rw [e, List.count_cons_self] at h1
    have h2 := List.count_le_length (a := a) (l := l)
    rw [if_neg (by omega)] at h1
    omega
theorem Apt.none {l s : List Rat} {k : Nat} (A : Apt l [] s k) {j : Nat} (hk : 1 ≤ k) (h : k ≤ j) : tK l j = [] := by
  rcases Classical.em (tK l j = []) with z | z
  · exact z
  · obtain ⟨a, m, e⟩ := List.exists_cons_of_ne_nil z
    have h1 : a ∈ tK l j := by rw [e]; exact List.mem_cons_self
    rw [tK_mem l (by omega)] at h1
    have := A.cr a
    rw [if_pos (by omega)] at this
    simp at this
theorem hb_lin {a : Rat} (ha : Fb 3 a) : Hb 3 [-a, 1] := by
  obtain ⟨d, d0, d1, h⟩ := ha.neg.hb
  obtain ⟨z, e, hz⟩ := h _ (List.mem_singleton.mpr rfl)
  refine ⟨d, d0, d1, fun q hq => ?_⟩
  rcases List.mem_cons.mp hq with h | h
  · exact ⟨z, by rw [h, e], hz⟩
  · rw [List.mem_singleton.mp h]
    refine ⟨(d : Nat), ?_, by simpa using d1⟩
    have : ((d : Nat) : Rat) ≠ 0 := fun z => by
      have : d = 0 := by exact_mod_cast z
      omega
    rw [Rat.intCast_natCast]
    grind
theorem hb_ofR {f : List Rat} (tf : Tr f) : ∀ (l : List Rat) (n : Nat) (f : List Rat), (∀ a, a ∈ l → Fb 3 a) → Tr f → f ≠ [] → f.length + l.length ≤ 5 → Hb n f → Hb (n + l.length * 6) (ofR f l)
  | [], n, f, _, _, _, _, h => h
  | a :: l, n, f, hl, tf, nf, len, h => by
    rw [List.length_cons] at len ⊢
    have l1 := lin_len a tf nf
    have h1 : Hb (n + 6) (lin a f) := by
      rw [← pmul_lin]
      refine Hb.mono (h.pmul (hb_lin (hl a List.mem_cons_self)) (c := 3) ?_) (by omega)
      simp
      omega
    have := hb_ofR tf l (n + 6) (lin a f) (fun b hb => hl b (List.mem_cons_of_mem _ hb)) (lin_tr _ _) (lin_ne a tf nf) (by omega) h1
    show Hb _ (ofR (pmul f [-a, 1]) l)
    rw [pmul_lin]
    exact this.mono (by omega)
theorem hb_rt {l : List Rat} (h : ∀ a, a ∈ l → Fb 3 a) (len : l.length ≤ 3) : Hb 20 (rt l) := by
  refine Hb.mono (hb_ofR tr1 l 1 [1] h tr1 (by simp) (by simp; omega) (fb_one (n := 1) (by omega)).hb) ?_
  omega
end Mini
namespace Mini
def ctB (p : List Rat) (b : Nat) : Nat := p.foldl (fun b a => b / Nat.gcd b a.den * a.den) b
def ctN (B : Nat) (a : Rat) : Int := a.num * ((B / a.den : Nat) : Int)
def ctT (B : Nat) (p : List Rat) (t : Nat) : Nat := p.foldl (fun t a => Int.gcd (t : Int) (ctN B a)) t
def gcF (l : List Int) (t : Nat) : Nat := l.foldl (fun t c => Int.gcd (t : Int) c) t
theorem ctB_step (b d : Nat) (hd : 0 < d) : b / Nat.gcd b d * d = Nat.lcm b d := by
  unfold Nat.lcm
  obtain ⟨c, hc⟩ := Nat.gcd_dvd_left b d
  have hg : 0 < Nat.gcd b d := Nat.gcd_pos_of_pos_right _ hd
  generalize Nat.gcd b d = g at *
  subst hc
  rw [Nat.mul_div_cancel_left _ hg, Nat.mul_assoc, Nat.mul_div_cancel_left _ hg]
theorem ctB_dvd : ∀ (p : List Rat) (b : Nat), b ∣ ctB p b ∧ ∀ a, a ∈ p → a.den ∣ ctB p b
  | [], b => ⟨Nat.dvd_refl b, fun a h => by simp at h⟩
  | a :: p, b => by
    have ih := ctB_dvd p (b / Nat.gcd b a.den * a.den)
    rw [ctB_step b a.den a.den_pos] at ih
    have e : ctB (a :: p) b = ctB p (Nat.lcm b a.den) := by rw [← ctB_step b a.den a.den_pos]; rfl
    rw [e]
    refine ⟨Nat.dvd_trans (Nat.dvd_lcm_left _ _) ih.1, fun c hc => ?_⟩
    rcases List.mem_cons.mp hc with h | h
    · rw [h]; exact Nat.dvd_trans (Nat.dvd_lcm_right _ _) ih.1
    · exact ih.2 c h
theorem ctB_pos : ∀ (p : List Rat) (b : Nat), 0 < b → 0 < ctB p b
  | [], b, h => h
  | a :: p, b, h => by
    show 0 < ctB p (b / Nat.gcd b a.den * a.den)
    rw [ctB_step b a.den a.den_pos]
    exact ctB_pos p _ (Nat.lcm_pos h a.den_pos)
theorem ctB_lt {n : Nat} : ∀ (p : List Rat) (b m : Nat), (∀ a, a ∈ p → Fb n a) → b < 2 ^ m → ctB p b < 2 ^ (m + p.length * n)
  | [], b, m, _, h => by
    show b < 2 ^ (m + 0 * n)
    rw [Nat.zero_mul]; exact h
  | a :: p, b, m, hp, h => by
    have h1 := (hp a List.mem_cons_self).2
    have h2 : b / Nat.gcd b a.den * a.den < 2 ^ (m + n) := nat_lt_pow (Nat.lt_of_le_of_lt (Nat.div_le_self _ _) h) h1
    have := ctB_lt p _ (m + n) (fun c hc => hp c (List.mem_cons_of_mem _ hc)) h2
    rw [List.length_cons, Nat.add_mul, Nat.one_mul]
    rw [show m + (p.length * n + n) = m + n + p.length * n by omega]
    exact this
theorem ctT_eq (B : Nat) (p : List Rat) (t : Nat) : ctT B p t = gcF (p.map (ctN B)) t := by
  unfold ctT gcF
  rw [List.foldl_map]
theorem gcF_dvd : ∀ (l : List Int) (t : Nat), gcF l t ∣ t ∧ ∀ c, c ∈ l → (gcF l t : Int) ∣ c
  | [], t => ⟨Nat.dvd_refl t, fun c h => by simp at h⟩
  | c :: l, t => by
    obtain ⟨h1, h2⟩ := gcF_dvd l (Int.gcd (t : Int) c)
    have d1 : (Int.gcd (t : Int) c : Int) ∣ (t : Int) := Int.gcd_dvd_left ..
    have d2 : (Int.gcd (t : Int) c : Int) ∣ c := Int.gcd_dvd_right ..
    have h1' : (gcF l (Int.gcd (t : Int) c) : Int) ∣ (Int.gcd (t : Int) c : Int) := Int.natCast_dvd_natCast.mpr h1
    refine ⟨Int.natCast_dvd_natCast.mp (Int.dvd_trans h1' d1), fun e he => ?_⟩
    rcases List.mem_cons.mp he with h | h
    · rw [h]; exact Int.dvd_trans h1' d2
    · exact h2 e h
theorem gcF_mul (G : Nat) : ∀ (l : List Int) (t : Nat), gcF (l.map fun c => (G : Int) * c) (G * t) = G * gcF l t
  | [], t => rfl
  | c :: l, t => by
    show gcF (l.map fun c => (G : Int) * c) (Int.gcd ((G * t : Nat) : Int) ((G : Int) * c)) = G * gcF l (Int.gcd (t : Int) c)
    rw [Int.natCast_mul, Int.gcd_mul_left, Int.natAbs_natCast]
    exact gcF_mul G l _
theorem gcF_sg {s : Int} (hs : s.natAbs = 1) : ∀ (l : List Int) (t : Nat), gcF (l.map fun c => s * c) t = gcF l t
  | [], t => rfl
  | c :: l, t => by
    show gcF (l.map fun c => s * c) (Int.gcd (t : Int) (s * c)) = gcF l (Int.gcd (t : Int) c)
    have e : Int.gcd (t : Int) (s * c) = Int.gcd (t : Int) c := by
      unfold Int.gcd
      rw [Int.natAbs_mul, hs, Nat.one_mul]
    rw [e]
    exact gcF_sg hs l _
theorem gcF_lt : ∀ (l : List Int) (t n : Nat), t < 2 ^ n → (∀ c, c ∈ l → c.natAbs < 2 ^ n) → gcF l t < 2 ^ n
  | [], t, n, h, _ => h
  | c :: l, t, n, h, hl => by
    refine gcF_lt l _ n ?_ fun e he => hl e (List.mem_cons_of_mem _ he)
    rcases Nat.eq_zero_or_pos t with z | z
    · subst z
      have : Int.gcd ((0 : Nat) : Int) c = c.natAbs := by simp
      show Int.gcd ((0 : Nat) : Int) c < 2 ^ n
      rw [this]
      exact hl c List.mem_cons_self
    · exact Nat.lt_of_le_of_lt (Nat.le_of_dvd z (Nat.gcd_dvd_left t c.natAbs)) h
def sg1 (i : Int) : Int := if 0 < i then 1 else if i < 0 then -1 else 0
theorem ctN_eq {B : Nat} {a : Rat} (hB : 0 < B) (h : a.den ∣ B) : a = (ctN B a : Rat) / (B : Rat) := by
  obtain ⟨c, hc⟩ := h
  have hd := a.den_pos
  unfold ctN
  rw [hc, Nat.mul_div_cancel_left _ hd, Rat.intCast_mul, Rat.intCast_natCast, Rat.natCast_mul]
  have e := q_div a
  have c0 : 0 < c := by
    rcases Nat.eq_zero_or_pos c with z | z
    · subst z; omega
    · exact z
  have h1 := nat_neR hd
  have h2 := nat_neR c0
  generalize (a.num : Rat) = x at *
  generalize (a.den : Rat) = y at *
  generalize (c : Rat) = w at *
  rw [e]
  grind
structure Ctn (p : List Rat) (M : Rat) (row : List Int) : Prop where
  m : M = Rat.divInt ((ctT (ctB p 1) p 0 : Int) * sg1 (lc p).num) (ctB p 1 : Nat)
  m0 : M ≠ 0
  rw_ : row = p.map fun a => (a / M).num
  val : ∀ a, a ∈ p → ((a / M).num : Rat) = a / M
  last : 1 ≤ (lc p / M).num
  one : gcF row 0 = 1
theorem ctn {p : List Rat} (tp : Tr p) (np : p ≠ []) : ∃ M row, Ctn p M row := by
  have hB : 0 < ctB p 1 := ctB_pos p 1 (by omega)
  have hd := (ctB_dvd p 1).2
  generalize hBe : ctB p 1 = B at *
  have l0 := tr_lc tp np
  have lm : lc p ∈ p := cf_mem (by have := List.length_pos_iff.mpr np; omega)
  obtain ⟨_, hG⟩ := gcF_dvd (p.map (ctN B)) 0
  have hGe := ctT_eq B p 0
  generalize hT : gcF (p.map (ctN B)) 0 = G at *
  have hn : ∀ a, a ∈ p → ∃ c, ctN B a = (G : Int) * c := fun a ha => hG _ (List.mem_map.mpr ⟨a, ha, rfl⟩)
  have n0 : ctN B (lc p) ≠ 0 := fun z => by
    have := ctN_eq hB (hd _ lm)
    rw [z] at this
    rw [this] at l0
    exact l0 (by have := nat_neR hB; grind)
  have G0 : 0 < G := by
    rcases Nat.eq_zero_or_pos G with z | z
    · obtain ⟨c, hc⟩ := hn _ lm
      rw [z] at hc
      simp at hc
      exact absurd hc n0
    · exact z
  have s1 : sg1 (lc p).num = 1 ∨ sg1 (lc p).num = -1 := by
    unfold sg1
    have : (lc p).num ≠ 0 := fun z => l0 (num0.mp z)
    split
    · exact .inl rfl
    · rw [if_pos (by omega)]; exact .inr rfl
  have sa : (sg1 (lc p).num).natAbs = 1 := by rcases s1 with h | h <;> rw [h] <;> rfl
  have ss : sg1 (lc p).num * sg1 (lc p).num = 1 := by rcases s1 with h | h <;> rw [h] <;> rfl
  have sp : 0 < sg1 (lc p).num * (lc p).num := by
    have : (lc p).num ≠ 0 := fun z => l0 (num0.mp z)
    unfold sg1
    split
    · omega
    · rw [if_pos (by omega)]; omega
  generalize hS : sg1 (lc p).num = s at *
  have hBR := nat_neR hB
  have hGR := nat_neR G0
  have hsR : (s : Rat) * (s : Rat) = 1 := by rw [← Rat.intCast_mul, ss]; rfl
  have eM : Rat.divInt ((G : Int) * s) (B : Nat) = (G : Rat) * (s : Rat) / (B : Rat) := by
    rw [Rat.divInt_eq_div, Rat.intCast_mul, Rat.intCast_natCast, Rat.intCast_natCast]
  have quo : ∀ a, a ∈ p → ∃ c : Int, ctN B a = (G : Int) * c ∧ a / ((G : Rat) * (s : Rat) / (B : Rat)) = ((s * c : Int) : Rat) := fun a ha => by
    obtain ⟨c, hc⟩ := hn a ha
    refine ⟨c, hc, ?_⟩
    have e := ctN_eq hB (hd a ha)
    rw [hc, Rat.intCast_mul, Rat.intCast_natCast] at e
    rw [Rat.intCast_mul]
    generalize (G : Rat) = g at *
    generalize (B : Rat) = b at *
    generalize (s : Rat) = t at *
    generalize (c : Rat) = d at *
    have t0 : t ≠ 0 := fun z => by rw [z] at hsR; grind
    have e1 : g * d / b = (t * d) * (g * t / b) := by
      have : (t * d) * (g * t / b) = g * d / b * (t * t) := by grind
      rw [this, hsR]; grind
    have m0 : g * t / b ≠ 0 := by
      intro z
      have : g * t = 0 := by
        have : g * t = g * t / b * b := by grind
        rw [this, z]; grind
      rcases Rat.mul_eq_zero.mp this with h | h
      · exact hGR h
      · exact t0 h
    rw [e, e1]
    generalize g * t / b = m at *
    grind
  have m0 : (G : Rat) * (s : Rat) / (B : Rat) ≠ 0 := by
    intro z
    have t0 : (s : Rat) ≠ 0 := fun z => by rw [z] at hsR; grind
    have : (G : Rat) * (s : Rat) = 0 := by
      have : (G : Rat) * (s : Rat) = (G : Rat) * (s : Rat) / (B : Rat) * (B : Rat) := by grind
      rw [this, z]; grind
    rcases Rat.mul_eq_zero.mp this with h | h
    · exact hGR h
    · exact t0 h
  refine ⟨(G : Rat) * (s : Rat) / (B : Rat), p.map fun a => (a / ((G : Rat) * (s : Rat) / (B : Rat))).num, ?_, m0, rfl, fun a ha => ?_, ?_, ?_⟩
  · rw [hBe, hGe, hS, eM]
  · obtain ⟨c, _, e⟩ := quo a ha
    rw [e, Rat.num_intCast]
  · obtain ⟨c, hc, e⟩ := quo _ lm
    rw [e, Rat.num_intCast]
    unfold ctN at hc
    obtain ⟨u, hu⟩ := hd _ lm
    have u0 : 0 < u := by
      rcases Nat.eq_zero_or_pos u with z | z
      · subst z; omega
      · exact z
    rw [hu, Nat.mul_div_cancel_left _ (lc p).den_pos] at hc
    have h1 : 0 < s * (lc p).num * (u : Int) := Int.mul_pos sp (by omega)
    have h2 : s * (lc p).num * (u : Int) = (G : Int) * (s * c) := by
      rw [Int.mul_assoc, hc, ← Int.mul_assoc, Int.mul_comm s, Int.mul_assoc]
    rw [h2] at h1
    have h3 : 0 < s * c := by
      apply Classical.byContradiction
      intro z
      have : (G : Int) * (s * c) ≤ 0 := Int.mul_nonpos_of_nonneg_of_nonpos (by omega) (by omega)
      omega
    omega
  · have e : (p.map fun a => (a / ((G : Rat) * (s : Rat) / (B : Rat))).num) = (p.map fun a => ctN B a / (G : Int)).map fun c => s * c := by
      rw [List.map_map]
      refine List.map_congr_left fun a ha => ?_
      obtain ⟨c, hc, e⟩ := quo a ha
      rw [e, Rat.num_intCast]
      show s * c = s * (ctN B a / (G : Int))
      rw [hc, Int.mul_ediv_cancel_left _ (by omega)]
    rw [e, gcF_sg sa]
    have e2 : p.map (ctN B) = (p.map fun a => ctN B a / (G : Int)).map fun c => (G : Int) * c := by
      rw [List.map_map]
      refine List.map_congr_left fun a ha => ?_
      obtain ⟨c, hc⟩ := hn a ha
      show ctN B a = (G : Int) * (ctN B a / (G : Int))
      rw [hc, Int.mul_ediv_cancel_left _ (by omega)]
    have e3 := gcF_mul G (p.map fun a => ctN B a / (G : Int)) 0
    rw [← e2, Nat.mul_zero, hT] at e3
    exact Nat.eq_of_mul_eq_mul_left G0 (by omega)
end Mini
namespace Mini
open PySem L2
theorem cf_slope_eq (p : List Rat) : trim ((List.range (p.length - 1)).map fun i => ((1 + (i : Nat) : Int) : Rat) * cf p (i + 1)) = pslope p := by
  unfold pslope
  congr 1
  apply List.map_congr_left
  intro i _
  congr 1
  rw [show (1 : Int) + (i : Nat) = ((i + 1 : Nat) : Int) by omega, Rat.intCast_natCast]
theorem C_slope (k : Nat) (hk : 4 ≤ k) (δ : Dl) {n : Nat} {p : List Rat} (hp : Hb n p) (lp : p.length ≤ 1000) (hs : n + 11 ≤ 4400) : callE (PF k) f_slope [pl p] δ = .ok (pl (pslope p)) δ := by
  obtain ⟨k, rfl⟩ : ∃ m, k = m + 1 := ⟨k - 1, by omega⟩
  refine call_ok ?_ rfl rfl
  rw [F_at (d := d_slope) [some (pl p), none] rfl rfl rfl]
  have R := items_rng2 (δ := δ) (a := 1) (b := (p.length : Int)) (rOk_le (by omega) (by omega)) (rOk_le (by omega) (by omega))
  rw [show ((p.length : Int) - 1).toNat = p.length - 1 by omega] at R
  have L := lc_range (g := .name 1) (c := fun _ δ => .ok true δ) (e := (evA' (PF k) e1_slope).v) (σ := [some (pl p), none]) (δ := δ) (n := p.length - 1) (fun i => .int (1 + (i : Nat))) (fun i => fr (((1 + (i : Nat) : Int) : Rat) * cf p (i + 1))) fun i hi => by
    refine ⟨[some (pl p), some (.int (1 + (i : Nat)))], by simp, rfl, ?_, rfl⟩
    have ix : atI (p.map fr) (1 + (i : Int)) = some (fr (cf p (i + 1))) := by
      rw [show 1 + (i : Int) = ((i + 1 : Nat) : Int) by omega]
      exact atI_fr (by omega)
    have T := C_times k (by omega) δ (a := ((1 + (i : Nat) : Int) : Rat)) (b := cf p (i + 1)) ((fb_int (n := 11) (by omega) (by omega)).mono (by omega)) ((hp.cf (i + 1)).mono (by omega))
    have O := C_of k (by omega) δ (1 + (i : Nat))
    generalize ((1 + (i : Nat) : Int) : Rat) = z at *
    simp [e1_slope, O, ix, T]
  have e : (List.range (p.length - 1)).map (fun i => fr (((1 + (i : Nat) : Int) : Rat) * cf p (i + 1))) = ((List.range (p.length - 1)).map fun i => ((1 + (i : Nat) : Int) : Rat) * cf p (i + 1)).map fr := by rw [List.map_map]; rfl
  rw [e] at L
  have C := C_cutL k (by omega) δ ((List.range (p.length - 1)).map fun i => ((1 + (i : Nat) : Int) : Rat) * cf p (i + 1)) (by simp; omega)
  rw [cf_slope_eq] at C
  have hl : ¬ 1000000 < ((List.range (p.length - 1)).map fun i => D.int (1 + (i : Nat))).length := by rw [rng_len']; omega
  simp only [d_slope, m_slope]
  generalize (List.range (p.length - 1)).map (fun i => ((1 + (i : Nat) : Int) : Rat) * cf p (i + 1)) = M at *
  generalize (List.range (p.length - 1)).map (fun i => D.int (1 + (i : Nat))) = rl at *
  simp [R, hl, L, C]
end Mini
namespace Mini
open PySem L2
theorem C_divis (k : Nat) (hk : 6 ≤ k) (δ : Dl) (f n m : Nat) {p q : List Rat} (hf : f < 1000) (lq : q.length ≤ f) (tp : Tr p) (tq : Tr q) (lp : p.length ≤ 16) (lqs : q.length ≤ 16) (hp : Hb n p) (hq : Hb m q) (n1 : 1 ≤ n) (m1 : 1 ≤ m) (np : p ≠ []) (ok : okd f p.length n q.length m = true) :
    callE (PF k) f_divisor [pl p, pl q] δ = .ok (pl (pscal (gcdP f p q) (1 / lc (gcdP f p q)))) δ := by
  obtain ⟨k, rfl⟩ : ∃ m, k = m + 1 := ⟨k - 1, by omega⟩
  refine call_ok ?_ rfl rfl
  rw [F_at (d := d_divisor) [some (pl p), some (pl q)] rfl rfl rfl]
  obtain ⟨e, h, l⟩ := div_loop k (by omega) (δ := δ) f fuel n m p q (by rw [fuel_eq]; omega) lq tq lp lqs hp hq n1 m1 ok
  have gn := gcdP_ne f p q tq lq (.inl np)
  have gt := gcdP_tr f p q tp tq
  have M := C_monic k (by omega) δ h gn gt (by omega)
  simp only [d_divisor, m_divisor]
  simp [e, M]
theorem res_loop1 (k : Nat) (hk : 3 ≤ k) {δ : Dl} {q : List Rat} {m : Nat} (hq : Hb m q) (nq : q ≠ []) (s0 s2 : Option D) : ∀ (l : List D) (a : Nat) (x : Rat) (s4 : Option D), (∀ z, z ∈ l → isOwn z = false) → Fb a x → a + (l.length + 1) * m ≤ 4400 →
    ∃ t, forGo (.name 4) (evS (PF k) fuel b1_resultant) l [s0, some (pl q), s2, some (fr x), s4] δ = .nx [s0, some (pl q), s2, some (fr (x * cf q 0 ^ l.length)), t] δ
  | [], a, x, s4, _, _, _ => ⟨s4, by rw [List.length_nil, Rat.pow_zero, show x * 1 = x by grind]; rfl⟩
  | c :: l, a, x, s4, hl, hx, hs => by
    rw [List.length_cons, Nat.add_mul, Nat.add_mul, Nat.one_mul] at hs
    have fq : Fb m (cf q 0) := hq.cf 0
    obtain ⟨t, e⟩ := res_loop1 k hk (δ := δ) hq nq s0 s2 l (a + m) (x * cf q 0) (some c) (fun d hd => hl d (List.mem_cons_of_mem _ hd)) (hx.mul fq) (by rw [Nat.add_mul, Nat.one_mul]; omega)
    refine ⟨t, ?_⟩
    have A := C_times k hk δ (a := x) (b := cf q 0) (hx.mono (by omega)) (fq.mono (by omega))
    have ix : atI (q.map fr) ((0 : Nat) : Int) = some (fr (cf q 0)) := atI_fr (List.length_pos_iff.mpr nq)
    have ix : atI (q.map fr) 0 = some (fr (cf q 0)) := ix
    rw [forGo_nx (σ1 := [s0, some (pl q), s2, some (fr x), some c]) (σ2 := [s0, some (pl q), s2, some (fr (x * cf q 0)), some c]) (δ2 := δ) (by simp [hl c List.mem_cons_self]) (by simp [b1_resultant, ix, A]), e, List.length_cons, Rat.pow_succ, show x * cf q 0 * cf q 0 ^ l.length = x * (cf q 0 ^ l.length * cf q 0) by grind]
theorem res_loop2 (k : Nat) (hk : 3 ≤ k) {δ : Dl} {q : List Rat} {m : Nat} (hq : Hb m q) (s0 s2 : Option D) : ∀ (l : List D) (a : Nat) (x : Rat) (s4 : Option D), (∀ z, z ∈ l → isOwn z = false) → Fb a x → a + (l.length + 1) * m ≤ 4400 →
    ∃ t, forGo (.name 4) (evS (PF k) fuel b2_resultant) l [s0, some (pl q), s2, some (fr x), s4] δ = .nx [s0, some (pl q), s2, some (fr (x * lc q ^ l.length)), t] δ
  | [], a, x, s4, _, _, _ => ⟨s4, by rw [List.length_nil, Rat.pow_zero, show x * 1 = x by grind]; rfl⟩
  | c :: l, a, x, s4, hl, hx, hs => by
    rw [List.length_cons, Nat.add_mul, Nat.add_mul, Nat.one_mul] at hs
    have fq : Fb m (lc q) := hq.cf _
    obtain ⟨t, e⟩ := res_loop2 k hk (δ := δ) hq s0 s2 l (a + m) (x * lc q) (some c) (fun d hd => hl d (List.mem_cons_of_mem _ hd)) (hx.mul fq) (by rw [Nat.add_mul, Nat.one_mul]; omega)
    refine ⟨t, ?_⟩
    have A := C_times k hk δ (a := x) (b := lc q) (hx.mono (by omega)) (fq.mono (by omega))
    have L := C_lead k (by omega) δ q
    rw [forGo_nx (σ1 := [s0, some (pl q), s2, some (fr x), some c]) (σ2 := [s0, some (pl q), s2, some (fr (x * lc q)), some c]) (δ2 := δ) (by simp [hl c List.mem_cons_self]) (by simp [b2_resultant, L, A]), e, List.length_cons, Rat.pow_succ, show x * lc q * lc q ^ l.length = x * (lc q ^ l.length * lc q) by grind]
theorem Fb.powr {m : Nat} {x : Rat} (hx : Fb m x) : ∀ i : Nat, Fb (i * m + 1) (x ^ i)
  | 0 => by rw [Rat.pow_zero]; exact fb_one (by omega)
  | i + 1 => by
    rw [Rat.pow_succ]
    exact ((Fb.powr hx i).mul hx).mono (by rw [Nat.add_mul]; omega)
def okR : Nat → Nat → Nat → Nat → Nat → Nat → Bool
  | 0, _, _, _, _, _ => false
  | f + 1, lp, n, lq, m, b => if lq = 1 then decide (lp * m + 1 ≤ b ∧ b ≤ 4000 ∧ (lp + 1) * m ≤ 4000) else
    decide (n + (lp + 1 - lq) * (m + 1) + 2 * m + 1 ≤ 4400 ∧ 1 ≤ b) && (List.range lq).all fun l => if l = 0 then true else decide (lp * m + 1 ≤ b ∧ b ≤ 4000) && okR f lq m l (n + (lp + 1 - lq) * (m + 1)) (b - lp * m)
theorem C_rs0 (k : Nat) (hk : 1 ≤ k) (δ : Dl) (p : List Rat) : callE (PF k) f_resultant [pl p, pl []] δ = .ok (fr 0) δ := by
  obtain ⟨k, rfl⟩ : ∃ m, k = m + 1 := ⟨k - 1, by omega⟩
  refine call_ok ?_ rfl rfl
  rw [F_at (d := d_resultant) [some (pl p), some (pl []), none, none, none] rfl rfl rfl]
  simp only [d_resultant, m_resultant]
  rw [← fr0]
  simp
theorem sgn_par (a b : Nat) (ha : 1 ≤ a) (hb : 1 ≤ b) : (((a : Int) - 1) * ((b : Int) - 1)).fmod 2 = (((a - 1) * (b - 1) % 2 : Nat) : Int) := by
  rw [show (a : Int) - 1 = ((a - 1 : Nat) : Int) by omega, show (b : Int) - 1 = ((b - 1 : Nat) : Int) by omega, ← Int.natCast_mul]
  exact fmod_nat' _ 2
theorem bdeg (a b : Nat) (ha : a ≤ 16) (hb : b ≤ 16) : binD .Mult (.int ((a : Int) - 1)) (.int ((b : Int) - 1)) = some (.int (((a : Int) - 1) * ((b : Int) - 1))) := by
  rw [bin_mul, mulOk_of (n := 5) (m := 5) (by omega) (by omega) (by omega) (by omega)]; rfl
theorem C_rs (f : Nat) : ∀ (k : Nat) (p q : List Rat) (n m b : Nat), f + 5 ≤ k → Tr p → Tr q → p ≠ [] → q ≠ [] → q.length ≤ p.length → p.length ≤ 16 → Hb n p → Hb m q → 1 ≤ n → 1 ≤ m → okR f p.length n q.length m b = true →
    (∀ δ, callE (PF k) f_resultant [pl p, pl q] δ = .ok (fr (rs p q)) δ) ∧ Fb b (rs p q) := by
  induction f with
  | zero => intro k p q n m b _ _ _ _ _ _ _ _ _ _ _ ok; exact absurd ok (by unfold okR; decide)
  | succ f ih =>
    intro k p q n m b hk tp tq np nq hl lp hp hq n1 m1 ok
    obtain ⟨k, rfl⟩ : ∃ m, k = m + 1 := ⟨k - 1, by omega⟩
    have lp0 := List.length_pos_iff.mpr np
    have lq0 := List.length_pos_iff.mpr nq
    have l0 := tr_lc tq nq
    unfold okR at ok
    have D1 := fun δ => C_degree k (by omega) δ p
    have D2 := fun δ => C_degree k (by omega) δ q
    have np' : eqD (pl p) (.tup []) = some false := by rw [eqD_plnil, decide_eq_false np]
    have nq' : eqD (pl q) (.tup []) = some false := by rw [eqD_plnil, decide_eq_false nq]
    by_cases h1 : q.length = 1
    · rw [if_pos h1] at ok
      obtain ⟨o1, o2, o3⟩ := of_decide_eq_true ok
      have e := rs_one np h1
      have fq := hq.cf 0
      have dl : dg p * m ≤ p.length * m := Nat.mul_le_mul_right _ (by unfold dg; omega)
      refine ⟨fun δ => ?_, by rw [e]; exact (Fb.powr fq (dg p)).mono (by omega)⟩
      refine call_ok ?_ rfl rfl
      rw [F_at (d := d_resultant) [some (pl p), some (pl q), none, none, none] rfl rfl rfl]
      have O := C_of k (by omega) δ 1
      have R := items_rng (δ := δ) (n := ((p.length : Int) - 1)) (rOk_le (by omega) (by omega))
      rw [show ((p.length : Int) - 1).toNat = dg p by unfold dg; omega] at R
      obtain ⟨t, W⟩ := res_loop1 k (by omega) (δ := δ) hq nq (some (pl p)) none ((List.range (dg p)).map fun i => D.int (i : Nat)) 1 1 none (fun z hz => by
        obtain ⟨i, _, rfl⟩ := List.mem_map.mp hz
        rfl) (fb_one (by omega)) (by
          rw [rng_len']
          have : (dg p + 1) * m ≤ (p.length + 1) * m := Nat.mul_le_mul_right _ (by unfold dg; omega)
          omega)
      rw [rng_len', show (1 : Rat) * cf q 0 ^ dg p = cf q 0 ^ dg p by grind] at W
      rw [e]
      simp only [d_resultant, m_resultant]
      generalize (List.range (dg p)).map (fun i => D.int (i : Nat)) = rl at *
      generalize cf q 0 ^ dg p = w at *
      have h1' : (q.length : Int) - 1 = 0 := by omega
      rw [h1'] at D2
      simp [np', nq', D1, D2, O, R, W]
    · rw [if_neg h1, Bool.and_eq_true, List.all_eq_true] at ok
      obtain ⟨ok1, ok2⟩ := ok
      obtain ⟨o1, o2⟩ := of_decide_eq_true ok1
      have e := rs_step (p := p) tq hl (by omega)
      have lr := rem_len (p := p) nq l0
      have okr := ok2 (prem p q).length (List.mem_range.mpr (by omega))
      have P := fun δ => C_parted k (by omega) δ hp hq l0 nq (by omega) (by omega) o1
      have hr := hp.prem hq l0 nq
      have tr := prem_tr p q
      -- the rest's resultant
      have main : ∃ x : Rat, (∀ δ, callE (PF k) f_resultant [pl q, pl (prem p q)] δ = .ok (fr x) δ) ∧ Fb 4000 x ∧ ((prem p q = [] ∧ x = 0) ∨ (prem p q ≠ [] ∧ x = rs q (prem p q) ∧ Fb (b - p.length * m) x ∧ p.length * m + 1 ≤ b ∧ b ≤ 4000)) := by
        by_cases z : prem p q = []
        · rw [z]
          exact ⟨0, fun δ => C_rs0 k (by omega) δ q, fb_zero (by omega), .inl ⟨rfl, rfl⟩⟩
        · have lr0 := List.length_pos_iff.mpr z
          rw [if_neg (by omega), Bool.and_eq_true] at okr
          obtain ⟨o3, o4⟩ := of_decide_eq_true okr.1
          obtain ⟨g1, g2⟩ := ih k q (prem p q) m (n + (p.length + 1 - q.length) * (m + 1)) (b - p.length * m) (by omega) tq tr nq z (by omega) (by omega) hq hr m1 (by omega) okr.2
          exact ⟨_, g1, g2.mono (by omega), .inr ⟨z, rfl, g2, o3, o4⟩⟩
      obtain ⟨x, X, fx, hx⟩ := main
      have eq : rs p q = sgn (dg p) (dg q) * (x * lc q ^ (if prem p q = [] then 0 else dg p - dg (prem p q))) := by
        rw [e]
        rcases hx with ⟨z, rfl⟩ | ⟨z, rfl, _⟩
        · rw [if_pos z, if_pos z, Rat.pow_zero]; grind
        · rw [if_neg z, if_neg z]; grind
      have hd : (if prem p q = [] then 0 else dg p - dg (prem p q)) + 1 ≤ p.length := by
        split
        · omega
        · unfold dg; omega
      generalize hj : (if prem p q = [] then 0 else dg p - dg (prem p q)) = j at *
      have sg : sgn (dg p) (dg q) = 1 ∨ sgn (dg p) (dg q) = -1 := by unfold sgn; split <;> simp
      have jm : (j + 1) * m ≤ p.length * m := Nat.mul_le_mul_right _ hd
      rw [Nat.add_mul, Nat.one_mul] at jm
      have fz : ∀ y : Rat, (y = x ∨ y = 0 - x) → Fb 4000 y := fun y hy => by
        rcases hy with rfl | rfl
        · exact fx
        · have := fx.neg
          rwa [show (0 : Rat) - x = -x by grind]
      have fb : Fb b (x * lc q ^ j) := by
        rcases hx with ⟨_, rfl⟩ | ⟨_, _, g2, o3, o4⟩
        · rw [show (0 : Rat) * lc q ^ j = 0 by grind]
          exact fb_zero o2
        · exact (g2.mul (Fb.powr (hq.cf _) j)).mono (by omega)
      refine ⟨fun δ => ?_, ?_⟩
      · refine call_ok ?_ rfl rfl
        rw [F_at (d := d_resultant) [some (pl p), some (pl q), none, none, none] rfl rfl rfl]
        have D3 := C_degree k (by omega) δ (prem p q)
        have O := C_of k (by omega) δ 0
        have M := C_minus k (by omega) δ (a := 0) (b := x) (fb_zero (by omega)) (fx.mono (by omega))
        have O : callE (PF k) f_of [.int 0] δ = .ok (fr 0) δ := O
        have h2 : ¬ (q.length : Int) - 1 = 0 := by omega
        have h3 : ¬ (p.length : Int) - 1 < (q.length : Int) - 1 := by omega
        have pr := sgn_par p.length q.length (by omega) (by omega)
        have BD := bdeg p.length q.length lp (by omega)
        generalize ((p.length : Int) - 1) * ((q.length : Int) - 1) = pq at *
        have P1 := P δ
        have D1 := D1 δ
        have D2 := D2 δ
        have X := X δ
        have rng : ∃ w : Int, w.toNat = j ∧ -(2 ^ 62) ≤ w ∧ w < 2 ^ 62 ∧ (if prem p q = [] then (0 : Int) else (p.length : Int) - 1 - ((prem p q).length - 1)) = w := by
          rw [← hj]
          by_cases z : prem p q = []
          · rw [if_pos z, if_pos z]
            exact ⟨0, rfl, by omega, by omega, rfl⟩
          · have lr0 := List.length_pos_iff.mpr z
            rw [if_neg z, if_neg z]
            refine ⟨(p.length : Int) - 1 - ((prem p q).length - 1), ?_, by omega, by omega, rfl⟩
            unfold dg
            omega
        obtain ⟨w, w1, w2, w3, w4⟩ := rng
        have R := items_rng (δ := δ) (n := w) (rOk_le w2 w3)
        rw [w1] at R
        have small : ∀ a : Nat, Fb a x → a + (j + 1) * m ≤ 4400 → True := fun _ _ _ => trivial
        have W : ∀ y : Rat, (y = x ∨ y = 0 - x) → ∃ t, forGo (.name 4) (evS (PF k) fuel b2_resultant) ((List.range j).map fun i => D.int (i : Nat)) [some (pl p), some (pl q), some (pl (prem p q)), some (fr y), none] δ = .nx [some (pl p), some (pl q), some (pl (prem p q)), some (fr (y * lc q ^ j)), t] δ := fun y hy => by
          rcases hx with ⟨z, rfl⟩ | ⟨z, _, g2, o3, o4⟩
          · have j0 : j = 0 := by rw [← hj, if_pos z]
            rw [j0]
            refine ⟨none, ?_⟩
            rw [Rat.pow_zero, show y * 1 = y by grind]
            rfl
          · have fy : Fb (b - p.length * m) y := by
              rcases hy with rfl | rfl
              · exact g2
              · have := g2.neg
                rwa [show (0 : Rat) - x = -x by grind]
            have := res_loop2 k (by omega) (δ := δ) hq (some (pl p)) (some (pl (prem p q))) ((List.range j).map fun i => D.int (i : Nat)) (b - p.length * m) y none (fun z hz => by
              obtain ⟨i, _, rfl⟩ := List.mem_map.mp hz
              rfl) fy (by rw [rng_len', Nat.add_mul, Nat.one_mul]; omega)
            rw [rng_len'] at this
            exact this
        simp only [d_resultant, m_resultant]
        rw [eq]
        by_cases od : (p.length - 1) * (q.length - 1) % 2 = 1
        · have es : sgn (dg p) (dg q) = -1 := by unfold sgn dg; rw [if_pos od]
          have pr : pq.fmod 2 = 1 := by rw [pr, od]; rfl
          obtain ⟨t, W⟩ := W (0 - x) (.inr rfl)
          rw [es, show -1 * (x * lc q ^ j) = (0 - x) * lc q ^ j by grind]
          generalize (0 - x) * lc q ^ j = v at *
          generalize (0 : Rat) - x = y at *
          generalize (List.range j).map (fun i => D.int (i : Nat)) = rl at *
          by_cases z : prem p q = []
          · rw [if_pos z] at w4
            subst w4
            have zr : eqD (pl (prem p q)) (.tup []) = some true := by rw [eqD_plnil, decide_eq_true z]
            generalize prem p q = r at *
            simp [np', nq', D1, D2, h2, h3, P1, X, t1_resultant, BD, pr, O, M, zr, R, W]
          · rw [if_neg z] at w4
            have zr : eqD (pl (prem p q)) (.tup []) = some false := by rw [eqD_plnil, decide_eq_false z]
            rw [← w4] at R
            generalize prem p q = r at *
            simp [np', nq', D1, D2, D3, h2, h3, P1, X, t1_resultant, BD, pr, O, M, zr, R, W]
        · have es : sgn (dg p) (dg q) = 1 := by unfold sgn dg; rw [if_neg od]
          have od0 : (p.length - 1) * (q.length - 1) % 2 = 0 := by omega
          have pr : pq.fmod 2 = 0 := by rw [pr, od0]; rfl
          obtain ⟨t, W⟩ := W x (.inl rfl)
          rw [es, show 1 * (x * lc q ^ j) = x * lc q ^ j by grind]
          generalize x * lc q ^ j = v at *
          generalize (List.range j).map (fun i => D.int (i : Nat)) = rl at *
          by_cases z : prem p q = []
          · rw [if_pos z] at w4
            subst w4
            have zr : eqD (pl (prem p q)) (.tup []) = some true := by rw [eqD_plnil, decide_eq_true z]
            generalize prem p q = r at *
            simp [np', nq', D1, D2, h2, h3, P1, X, t1_resultant, BD, pr, zr, R, W]
          · rw [if_neg z] at w4
            have zr : eqD (pl (prem p q)) (.tup []) = some false := by rw [eqD_plnil, decide_eq_false z]
            rw [← w4] at R
            generalize prem p q = r at *
            simp [np', nq', D1, D2, D3, h2, h3, P1, X, t1_resultant, BD, pr, zr, R, W]
      · rw [eq]
        rcases sg with h | h <;> rw [h]
        · rw [show (1 : Rat) * (x * lc q ^ j) = x * lc q ^ j by grind]; exact fb
        · rw [show (-1 : Rat) * (x * lc q ^ j) = -(x * lc q ^ j) by grind]; exact fb.neg
theorem C_rsA (f k : Nat) {p q : List Rat} {n m b : Nat} (hk : f + 6 ≤ k) (tp : Tr p) (tq : Tr q) (np : p ≠ []) (nq : q ≠ []) (lp : p.length ≤ 16) (lq : q.length ≤ 16) (hp : Hb n p) (hq : Hb m q) (n1 : 1 ≤ n) (m1 : 1 ≤ m) (hb : b ≤ 4000)
    (ok1 : q.length ≤ p.length → okR f p.length n q.length m b = true) (ok2 : p.length ≤ q.length → okR f q.length m p.length n b = true) (δ : Dl) : callE (PF k) f_resultant [pl p, pl q] δ = .ok (fr (rs p q)) δ := by
  by_cases hl : q.length ≤ p.length
  · exact (C_rs f k p q n m b (by omega) tp tq np nq hl lp hp hq n1 m1 (ok1 hl)).1 δ
  · obtain ⟨k, rfl⟩ : ∃ m, k = m + 1 := ⟨k - 1, by omega⟩
    have lp0 := List.length_pos_iff.mpr np
    obtain ⟨X, fx⟩ := C_rs f k q p m n b (by omega) tq tp nq np (by omega) lq hq hp m1 n1 (ok2 (by omega))
    have X := X δ
    have e := rs_swap tp tq np (show p.length < q.length by omega)
    have D1 := C_degree k (by omega) δ p
    have D2 := C_degree k (by omega) δ q
    have np' : eqD (pl p) (.tup []) = some false := by rw [eqD_plnil, decide_eq_false np]
    have nq' : eqD (pl q) (.tup []) = some false := by rw [eqD_plnil, decide_eq_false nq]
    have h2 : ¬ (q.length : Int) - 1 = 0 := by omega
    have h3 : (p.length : Int) - 1 < (q.length : Int) - 1 := by omega
    have pr := sgn_par p.length q.length (by omega) (by omega)
    have BD := bdeg p.length q.length lp lq
    generalize ((p.length : Int) - 1) * ((q.length : Int) - 1) = pq at *
    have O : callE (PF k) f_of [.int 0] δ = .ok (fr 0) δ := C_of k (by omega) δ 0
    have M := C_minus k (by omega) δ (a := 0) (b := rs q p) (fb_zero (by omega)) (fx.mono (by omega))
    refine call_ok ?_ rfl rfl
    rw [F_at (d := d_resultant) [some (pl p), some (pl q), none, none, none] rfl rfl rfl, e]
    simp only [d_resultant, m_resultant]
    by_cases od : (p.length - 1) * (q.length - 1) % 2 = 1
    · have es : sgn (dg p) (dg q) = -1 := by unfold sgn dg; rw [if_pos od]
      have pr : pq.fmod 2 = 1 := by rw [pr, od]; rfl
      rw [es, show -1 * rs q p = 0 - rs q p by grind]
      generalize (0 : Rat) - rs q p = y at *
      simp [np', nq', D1, D2, h2, h3, X, BD, pr, O, M]
    · have es : sgn (dg p) (dg q) = 1 := by unfold sgn dg; rw [if_neg od]
      have od0 : (p.length - 1) * (q.length - 1) % 2 = 0 := by omega
      have pr : pq.fmod 2 = 0 := by rw [pr, od0]; rfl
      rw [es, show 1 * rs q p = rs q p by grind]
      simp [np', nq', D1, D2, h2, h3, X, BD, pr]
theorem okR4 : ∀ (a b : Fin 5), 1 ≤ b.val → b.val ≤ a.val → okR 6 a.val 22 b.val 22 4000 = true := by decide +kernel
theorem okd4 : ∀ (a b : Fin 5), okd 6 a.val 26 b.val 26 = true := by decide +kernel
end Mini
namespace Mini
open PySem L2
def PD (l : List Rat) (k : Nat) : List D := if tK l k = [] then [] else [.tup [pl (rt (tK l k)), .int (k : Nat)]]
theorem PD_len (l : List Rat) (k : Nat) : (PD l k).length ≤ 1 := by unfold PD; split <;> simp
structure Sm3 (l : List Rat) : Prop where
  fb : ∀ a, a ∈ l → Fb 3 a
  len : l.length ≤ 3
theorem Sm3.sub {l m : List Rat} (S : Sm3 l) (h : ∀ a, m.count a ≤ l.count a) : Sm3 m := ⟨fun a ha => S.fb a (mem_cnt h ha), Nat.le_trans (len_cnt h) S.len⟩
theorem Sm3.hb {l : List Rat} (S : Sm3 l) : Hb 20 (rt l) := hb_rt S.fb S.len
theorem Sm3.ll {l : List Rat} (S : Sm3 l) : (rt l).length ≤ 4 := by
  have := S.len
  rw [rt_len]; omega
theorem Apt.rc {l r s : List Rat} {k : Nat} (A : Apt l r s k) (hk : 1 ≤ k) (a : Rat) : r.count a ≤ l.count a := by
  rw [A.cr]
  split <;> omega
theorem Apt.sc {l r s : List Rat} {k : Nat} (A : Apt l r s k) (a : Rat) : s.count a ≤ l.count a := by
  rw [A.cs]; omega
theorem C_partR (k : Nat) (hk : 4 ≤ k) (δ : Dl) {l m r : List Rat} (S : Sm3 l) (T : Sm3 m) (h : (m ++ r).Perm l) : callE (PF k) f_parted [pl (rt l), pl (rt m)] δ = .ok (.tup [pl (rt r), pl []]) δ := by
  have l1 := S.ll
  have l2 := T.ll
  have e := rt_quo h
  have P := C_parted k hk δ S.hb T.hb (by rw [rt_lc]; decide) (rt_ne m) (by omega) (by omega) (by
    have : ((rt l).length + 1 - (rt m).length) * 21 ≤ 5 * 21 := Nat.mul_le_mul_right _ (by omega)
    omega)
  rw [e.1, e.2] at P
  exact P
theorem C_divR (k : Nat) (hk : 6 ≤ k) (δ : Dl) {l m : List Rat} (S : Sm3 l) (T : Sm3 m) : callE (PF k) f_divisor [pl (rt l), pl (rt m)] δ = .ok (pl (rt (meet l m))) δ := by
  have l1 := S.ll
  have l2 := T.ll
  have := T.len
  have D := C_divis k hk δ 6 26 26 (p := rt l) (q := rt m) (by omega) (by omega) (rt_tr _) (rt_tr _) (by omega) (by omega) (S.hb.mono (by omega)) (T.hb.mono (by omega)) (by omega) (by omega) (rt_ne _) (okd4 ⟨_, by omega⟩ ⟨_, by omega⟩)
  rwa [rt_gcd (by omega)] at D
theorem ap_go (k : Nat) (hk : 6 ≤ k) {l : List Rat} (S : Sm3 l) {δ : Dl} (s0 : Option D) : ∀ (c j N : Nat) (r s : List Rat) (F : List D) (s5 s6 : Option D), j + c = 4 → 1 ≤ j → c < N → Apt l r s j → F.length ≤ 100 + j →
    ∃ t2 t3 t4 t5 t6, whlGo (evA' (PF k) c1_apart).t (evS (PF k) fuel b1_apart) N [s0, some (.own F), some (pl (rt s)), some (pl (rt r)), some (.int (j : Nat)), s5, s6] δ = .nx [s0, some (.own (F ++ (List.range' j c).flatMap (PD l))), t2, t3, t4, t5, t6] δ := by
  intro c
  induction c with
  | zero =>
    intro j N r s F s5 s6 hj h1 hN A hF
    obtain ⟨N, rfl⟩ : ∃ m, N = m + 1 := ⟨N - 1, by omega⟩
    have := S.len
    have hr := A.nil (by omega)
    subst hr
    have D := C_degree k (by omega) δ (rt [])
    rw [rt_len] at D
    refine ⟨some (pl (rt s)), some (pl (rt [])), some (.int (j : Nat)), s5, s6, ?_⟩
    rw [whl_stop (δ1 := δ) (by simp at D; simp [c1_apart, D])]
    simp
  | succ c ih =>
    intro j N r s F s5 s6 hj h1 hN A hF
    obtain ⟨N, rfl⟩ : ∃ m, N = m + 1 := ⟨N - 1, by omega⟩
    by_cases hr : r = []
    · subst hr
      have D := C_degree k (by omega) δ (rt [])
      rw [rt_len] at D
      refine ⟨some (pl (rt s)), some (pl (rt [])), some (.int (j : Nat)), s5, s6, ?_⟩
      rw [whl_stop (δ1 := δ) (by simp at D; simp [c1_apart, D])]
      have e : (List.range' j (c + 1)).flatMap (PD l) = [] := by
        rw [List.flatMap_eq_nil_iff]
        intro i hi
        unfold PD
        rw [if_pos (A.none h1 (List.mem_range'_1.mp hi).1)]
      rw [e, List.append_nil]
    · have Sr := S.sub (A.rc h1)
      have Ss := S.sub A.sc
      obtain ⟨t, s', p1, p2, A', ht⟩ := A.next
      have Sm : Sm3 (meet r s) := Sr.sub fun a => by rw [meet_count]; omega
      have et : rt t = rt (tK l j) := rt_perm (tK_perm h1 ht)
      have D1 := C_divR k hk δ Sr Ss
      have P1 := C_partR k (by omega) δ Sr Sm p1
      have P2 := C_partR k (by omega) δ Ss Sm p2
      rw [et] at P1
      have Dr := C_degree k (by omega) δ (rt r)
      rw [rt_len] at Dr
      have Dt := C_degree k (by omega) δ (rt (tK l j))
      rw [rt_len] at Dt
      have lr := List.length_pos_iff.mpr hr
      have dr : (0 : Int) < ((r.length + 1 : Nat) : Int) - 1 := by omega
      have hF' : (F ++ PD l j).length ≤ 100 + (j + 1) := by
        have := PD_len l j
        rw [List.length_append]; omega
      obtain ⟨t2, t3, t4, t5, t6, e⟩ := ih (j + 1) N (meet r s) s' (F ++ PD l j) (some (pl (rt (meet r s)))) (some (pl (rt (tK l j)))) (by omega) (by omega) (by omega) A' hF'
      refine ⟨t2, t3, t4, t5, t6, ?_⟩
      rw [List.range'_succ, List.flatMap_cons, ← List.append_assoc, ← e]
      have ej : ((j : Nat) : Int) + 1 = ((j + 1 : Nat) : Int) := by omega
      rw [← ej]
      have hFl : ¬ 1000000 < F.length := by omega
      refine whl_go (δ1 := δ) (δ2 := δ) (by simp [c1_apart, Dr]; omega) ?_
      unfold PD
      by_cases z : tK l j = []
      · have dt : ¬ (0 : Int) < (((tK l j).length + 1 : Nat) : Int) - 1 := by rw [z]; simp
        rw [if_pos z]
        generalize rt (tK l j) = R1 at *
        generalize rt (meet r s) = R2 at *
        generalize rt r = R3 at *
        generalize rt s = R4 at *
        generalize rt s' = R5 at *
        generalize ((((tK l j).length + 1 : Nat) : Int) - 1) = dd1 at *
        simp [b1_apart, D1, P1, P2, Dt, dt]
      · have lt := List.length_pos_iff.mpr z
        have dt : (0 : Int) < (((tK l j).length + 1 : Nat) : Int) - 1 := by omega
        rw [if_neg z]
        generalize rt (tK l j) = R1 at *
        generalize rt (meet r s) = R2 at *
        generalize rt r = R3 at *
        generalize rt s = R4 at *
        generalize rt s' = R5 at *
        generalize ((((tK l j).length + 1 : Nat) : Int) - 1) = dd1 at *
        simp [b1_apart, D1, P1, P2, Dt, dt, hFl]
structure Fp (p : Rat) (l : List Rat) : Prop where
  p0 : p ≠ 0
  fp : Fb 3 p
  sm : Sm3 l
theorem Fp.hb {p : Rat} {l : List Rat} (I : Fp p l) : Hb 22 (pscal (rt l) p) := by
  have := I.sm.len
  rw [← ofR_scal I.p0]
  exact (hb_ofR tr1 l 3 [p] I.sm.fb (.inr I.p0) (by simp) (by simp; omega) I.fp.hb).mono (by omega)
theorem Fp.len {p : Rat} {l : List Rat} (I : Fp p l) : (pscal (rt l) p).length = l.length + 1 := by rw [scal_len (rt_tr _) I.p0, rt_len]
theorem Fp.ne {p : Rat} {l : List Rat} (I : Fp p l) : pscal (rt l) p ≠ [] := fun z => rt_ne l ((scal_ne (rt_tr _) I.p0).mp z)
theorem Fp.lc {p : Rat} {l : List Rat} (I : Fp p l) : Mini.lc (pscal (rt l) p) = p := by rw [scal_lc (rt_tr _) I.p0, rt_lc]; grind
def parts (l : List Rat) : List D := (List.range' 1 3).flatMap (PD l)
theorem C_apart (k : Nat) (hk : 7 ≤ k) (δ : Dl) {p : Rat} {l : List Rat} (I : Fp p l) : callE (PF k) f_apart [pl (pscal (rt l) p)] δ = .ok (.tup [fr p, .tup (parts l)]) δ := by
  obtain ⟨k, rfl⟩ : ∃ m, k = m + 1 := ⟨k - 1, by omega⟩
  refine call_ok ?_ rfl rfl
  rw [F_at (d := d_apart) [some (pl (pscal (rt l) p)), none, none, none, none, none, none] rfl rfl rfl]
  have lf := I.len
  have hl := I.sm.len
  have Sl := C_slope k (by omega) δ I.hb (by omega) (by omega)
  have ls := pslope_len (pscal (rt l) p)
  have ls2 := pslope_len (rt l)
  rw [rt_len] at ls2
  have D := C_divis k (by omega) δ 6 26 26 (p := pscal (rt l) p) (q := pslope (pscal (rt l) p)) (by omega) (by omega) (pscal_tr _ _) (pslope_tr _) (by omega) (by omega) (I.hb.mono (by omega)) ((I.hb.pslope (by omega)).mono (by omega)) (by omega) (by omega) I.ne (okd4 ⟨_, by omega⟩ ⟨_, by omega⟩)
  rw [gcd_fs I.p0 (by omega)] at D
  have M := C_monic k (by omega) δ (I.hb.mono (show 22 ≤ 4000 by omega)) I.ne (pscal_tr _ _) (by omega)
  rw [mon_f I.p0] at M
  obtain ⟨r, hr⟩ := dd_perm l
  have Sd : Sm3 (dd l) := I.sm.sub fun a => by rw [dd_count]; omega
  have P := C_partR k (by omega) δ I.sm Sd hr
  obtain ⟨t2, t3, t4, t5, t6, W⟩ := ap_go k (by omega) I.sm (δ := δ) (some (pl (pscal (rt l) p))) 3 1 fuel r (dd l) [] none none rfl (by omega) (by rw [fuel_eq]; omega) (apt_one hr) (by simp)
  have L := C_lead k (by omega) δ (pscal (rt l) p)
  rw [I.lc] at L
  have n1 : eqD (pl (pscal (rt l) p)) (.tup []) = some false := by rw [eqD_plnil, decide_eq_false I.ne]
  have n2 : eqD (pl (rt (dd l))) (.tup []) = some false := by rw [eqD_plnil, decide_eq_false (rt_ne _)]
  simp only [d_apart, m_apart]
  rw [List.nil_append] at W
  have W : whlGo (evA' (PF k) c1_apart).t (evS (PF k) fuel b1_apart) fuel [some (pl (pscal (rt l) p)), some (.own []), some (pl (rt (dd l))), some (pl (rt r)), some (.int 1), none, none] δ = .nx [some (pl (pscal (rt l) p)), some (.own (parts l)), t2, t3, t4, t5, t6] δ := W
  generalize pscal (rt l) p = f at *
  generalize pslope f = f' at *
  generalize rt l = R1 at *
  generalize rt (dd l) = R2 at *
  generalize rt r = R3 at *
  generalize parts l = ps at *
  simp [n1, n2, Sl, D, M, P, W, L]
theorem C_apartX (k : Nat) (hk : 1 ≤ k) (δ : Dl) : callE (PF k) f_apart [.tup []] δ = .ex "NoWay" [] δ := by
  obtain ⟨k, rfl⟩ : ∃ m, k = m + 1 := ⟨k - 1, by omega⟩
  refine call_ex ?_ rfl
  rw [F_at (d := d_apart) [some (.tup []), none, none, none, none, none, none] rfl rfl rfl, plNil]
  simp only [d_apart, m_apart]
  simp [inNW]
end Mini
namespace Mini
open PySem L2
theorem C_sign9 (k : Nat) (hk : 1 ≤ k) (δ : Dl) (a : Rat) : callE (PF k) f_sign [fr a] δ = .ok (.int (sg1 a.num)) δ := by
  obtain ⟨k, rfl⟩ : ∃ m, k = m + 1 := ⟨k - 1, by omega⟩
  refine call_ok ?_ rfl rfl
  rw [F_at (d := d_sign) [some (fr a)] rfl rfl rfl]
  have e : sg1 a.num = (if 0 < a.num then 1 else 0) - (if a.num < 0 then 1 else 0) := by
    unfold sg1
    split
    · rw [if_neg (by omega)]; rfl
    · split <;> rfl
  simp only [d_sign, m_sign]
  simp [e]
theorem fdivN (b g : Nat) : ((b : Nat) : Int).fdiv ((g : Nat) : Int) = ((b / g : Nat) : Int) := by
  rw [Int.fdiv_eq_ediv_of_nonneg _ (by omega)]; rfl
theorem ct_loop1 (k : Nat) (hk : 1 ≤ k) {δ : Dl} {n : Nat} (s0 s3 : Option D) : ∀ (p : List Rat) (b m : Nat) (s1 : Option D), (∀ a, a ∈ p → Fb n a) → b < 2 ^ m → m + (p.length + 1) * n ≤ 4000 →
    ∃ t1, forGo (.name 1) (evS (PF k) fuel b1_content) (p.map fr) [s0, s1, some (.int (b : Nat)), s3] δ = .nx [s0, t1, some (.int (ctB p b : Nat)), s3] δ
  | [], b, m, s1, _, _, _ => ⟨s1, rfl⟩
  | a :: p, b, m, s1, hp, hb, hs => by
    rw [List.length_cons, Nat.add_mul, Nat.add_mul, Nat.one_mul] at hs
    have fa := hp a List.mem_cons_self
    have hb2 : b / Nat.gcd b a.den * a.den < 2 ^ (m + n) := nat_lt_pow (Nat.lt_of_le_of_lt (Nat.div_le_self _ _) hb) fa.2
    obtain ⟨t1, e⟩ := ct_loop1 k hk (δ := δ) s0 s3 p (b / Nat.gcd b a.den * a.den) (m + n) (some (fr a)) (fun c hc => hp c (List.mem_cons_of_mem _ hc)) hb2 (by rw [Nat.add_mul, Nat.one_mul]; omega)
    refine ⟨t1, ?_⟩
    have dl : ((a.den : Nat) : Int).natAbs < 2 ^ 8990 := Nat.lt_of_lt_of_le (den_lt fa) (pow_le2 (by omega))
    have S := C_shared k hk δ (b : Nat) (a.den : Nat) dl
    obtain ⟨g1, g2⟩ := gcd_lt (t := (b : Nat)) (b := ((a.den : Nat) : Int)) (by have := a.den_pos; omega) dl
    have eg : Int.gcd ((b : Nat) : Int) ((a.den : Nat) : Int) = Nat.gcd b a.den := rfl
    rw [eg] at S g1 g2
    have dv : divOk ((Nat.gcd b a.den : Nat) : Int) = true := divOk_of (by omega) (lt_big' (by omega))
    have ml : mulOk ((b / Nat.gcd b a.den : Nat) : Int) ((a.den : Nat) : Int) = true := mulOk_of (n := m) (m := n) (by rw [Int.natAbs_natCast]; exact Nat.lt_of_le_of_lt (Nat.div_le_self _ _) hb) (den_lt fa) (by omega) (by omega)
    have fd := fdivN b (Nat.gcd b a.den)
    have cm : ((b / Nat.gcd b a.den : Nat) : Int) * ((a.den : Nat) : Int) = ((b / Nat.gcd b a.den * a.den : Nat) : Int) := (Int.natCast_mul _ _).symm
    rw [List.map_cons, forGo_nx (σ1 := [s0, some (fr a), some (.int (b : Nat)), s3]) (σ2 := [s0, some (fr a), some (.int ((b / Nat.gcd b a.den * a.den : Nat) : Int)), s3]) (δ2 := δ) (by simp) (by
      generalize Nat.gcd b a.den = g at *
      generalize b / g * a.den = w at *
      generalize b / g = v at *
      simp [b1_content, S, bin_div, bin_mul, dv, fd, ml, cm]), e]
    rfl
theorem ct_loop2 (k : Nat) (hk : 1 ≤ k) {δ : Dl} {n M B : Nat} (hB : B < 2 ^ M) (s0 : Option D) (hM : M + n ≤ 4000) : ∀ (p : List Rat) (t : Nat) (s1 : Option D), (∀ a, a ∈ p → Fb n a) →
    ∃ t1, forGo (.name 1) (evS (PF k) fuel b2_content) (p.map fr) [s0, s1, some (.int (B : Nat)), some (.int (t : Nat))] δ = .nx [s0, t1, some (.int (B : Nat)), some (.int (ctT B p t : Nat))] δ
  | [], t, s1, _ => ⟨s1, rfl⟩
  | a :: p, t, s1, hp => by
    have fa := hp a List.mem_cons_self
    obtain ⟨t1, e⟩ := ct_loop2 k hk (δ := δ) hB s0 hM p (Int.gcd (t : Int) (ctN B a)) (some (fr a)) (fun c hc => hp c (List.mem_cons_of_mem _ hc))
    refine ⟨t1, ?_⟩
    have dl : ((a.den : Nat) : Int).natAbs < 2 ^ 8990 := Nat.lt_of_lt_of_le (den_lt fa) (pow_le2 (by omega))
    have dv : divOk ((a.den : Nat) : Int) = true := divOk_of (by have := a.den_pos; omega) (lt_big' dl)
    have hq : ((B / a.den : Nat) : Int).natAbs < 2 ^ M := by rw [Int.natAbs_natCast]; exact Nat.lt_of_le_of_lt (Nat.div_le_self _ _) hB
    have ml : mulOk a.num ((B / a.den : Nat) : Int) = true := mulOk_of (n := n) (m := M) fa.1 hq (by omega) (by omega)
    have fd := fdivN B a.den
    have cn : (ctN B a).natAbs < 2 ^ 8990 := Nat.lt_of_lt_of_le (natAbs_lt_pow fa.1 hq) (pow_le2 (by omega))
    have S := C_shared k hk δ (t : Nat) (ctN B a) cn
    have ec : a.num * ((B / a.den : Nat) : Int) = ctN B a := rfl
    rw [List.map_cons, forGo_nx (σ1 := [s0, some (fr a), some (.int (B : Nat)), some (.int (t : Nat))]) (σ2 := [s0, some (fr a), some (.int (B : Nat)), some (.int ((Int.gcd (t : Int) (ctN B a) : Nat) : Int))]) (δ2 := δ) (by simp) (by
      generalize ctN B a = c at *
      generalize B / a.den = v at *
      simp [b2_content, S, bin_div, bin_mul, dv, fd, ml, ec]), e]
    rfl
structure Cp (p : List Rat) (M : Rat) (row : List Int) extends Ctn p M row : Prop where
  fm : Fb 600 M
theorem cp {p : List Rat} (tp : Tr p) (np : p ≠ []) (hp : Hb 22 p) (lp : p.length ≤ 4) : ∃ M row, Cp p M row := by
  obtain ⟨M, row, C⟩ := ctn tp np
  refine ⟨M, row, ⟨C, ?_⟩⟩
  rw [C.m]
  have hB : ctB p 1 < 2 ^ 89 := Nat.lt_of_lt_of_le (ctB_lt p 1 1 (fun a ha => hp.fb ha) (by decide)) (pow_le2 (by omega))
  have hB0 := ctB_pos p 1 (by omega)
  generalize ctB p 1 = B at *
  have hT : ctT B p 0 < 2 ^ 200 := by
    rw [ctT_eq]
    refine gcF_lt _ _ _ (Nat.two_pow_pos _) fun c hc => ?_
    obtain ⟨a, ha, rfl⟩ := List.mem_map.mp hc
    exact Nat.lt_of_lt_of_le (natAbs_lt_pow (hp.fb ha).1 (show ((B / a.den : Nat) : Int).natAbs < 2 ^ 89 by rw [Int.natAbs_natCast]; exact Nat.lt_of_le_of_lt (Nat.div_le_self _ _) hB)) (pow_le2 (by omega))
  have sa : (sg1 (lc p).num).natAbs < 2 ^ 1 := by unfold sg1; split <;> (try split) <;> decide
  refine (Fb.divInt (n := 201) (by omega) (natAbs_lt_pow (n := 200) (m := 1) (by rw [Int.natAbs_natCast]; exact hT) sa) (by rw [Int.natAbs_natCast]; exact Nat.lt_of_lt_of_le hB (pow_le2 (by omega)))).mono (by omega)
theorem C_content (k : Nat) (hk : 3 ≤ k) (δ : Dl) {p : List Rat} {M : Rat} {row : List Int} (C : Cp p M row) (np : p ≠ []) (hp : Hb 22 p) (lp : p.length ≤ 4) : callE (PF k) f_content [pl p] δ = .ok (fr M) δ := by
  obtain ⟨k, rfl⟩ : ∃ m, k = m + 1 := ⟨k - 1, by omega⟩
  refine call_ok ?_ rfl rfl
  rw [F_at (d := d_content) [some (pl p), none, none, none] rfl rfl rfl, C.m]
  have hB : ctB p 1 < 2 ^ 89 := Nat.lt_of_lt_of_le (ctB_lt p 1 1 (fun a ha => hp.fb ha) (by decide)) (pow_le2 (by omega))
  have hB0 := ctB_pos p 1 (by omega)
  obtain ⟨t1, e1⟩ := ct_loop1 k (by omega) (δ := δ) (some (pl p)) (some (.int 0)) p 1 1 none (fun a ha => hp.fb ha) (by decide) (by
    have : (p.length + 1) * 22 ≤ 5 * 22 := Nat.mul_le_mul_right _ (by omega)
    omega)
  generalize ctB p 1 = B at *
  obtain ⟨t2, e2⟩ := ct_loop2 k (by omega) (δ := δ) (n := 22) hB (some (pl p)) (by omega) p 0 t1 (fun a ha => hp.fb ha)
  have hT : ctT B p 0 < 2 ^ 200 := by
    rw [ctT_eq]
    refine gcF_lt _ _ _ (Nat.two_pow_pos _) fun c hc => ?_
    obtain ⟨a, ha, rfl⟩ := List.mem_map.mp hc
    exact Nat.lt_of_lt_of_le (natAbs_lt_pow (hp.fb ha).1 (show ((B / a.den : Nat) : Int).natAbs < 2 ^ 89 by rw [Int.natAbs_natCast]; exact Nat.lt_of_le_of_lt (Nat.div_le_self _ _) hB)) (pow_le2 (by omega))
  generalize ctT B p 0 = G at *
  have L := C_lead k (by omega) δ p
  have S := C_sign9 k (by omega) δ (lc p)
  have sa : (sg1 (lc p).num).natAbs < 2 ^ 1 := by unfold sg1; split <;> (try split) <;> decide
  have ml : mulOk ((G : Nat) : Int) (sg1 (lc p).num) = true := mulOk_of (n := 200) (m := 1) (by rw [Int.natAbs_natCast]; exact hT) sa (by omega) (by omega)
  have Md := C_made k (by omega) δ ((G : Int) * sg1 (lc p).num) ((B : Nat) : Int) (by omega) (by rw [Int.natAbs_natCast]; exact Nat.lt_of_lt_of_le hB (pow_le2 (by omega)))
  have n1 : eqD (pl p) (.tup []) = some false := by rw [eqD_plnil, decide_eq_false np]
  have e1 : forGo (.name 1) (evS (PF k) fuel b1_content) (p.map fr) [some (pl p), none, some (.int 1), some (.int 0)] δ = .nx [some (pl p), t1, some (.int (B : Nat)), some (.int 0)] δ := e1
  have e2 : forGo (.name 1) (evS (PF k) fuel b2_content) (p.map fr) [some (pl p), t1, some (.int (B : Nat)), some (.int 0)] δ = .nx [some (pl p), t2, some (.int (B : Nat)), some (.int (G : Nat))] δ := e2
  simp only [d_content, m_content]
  generalize (lc p).num = y at *
  generalize sg1 y = s at *
  generalize fr (lc p) = fl at *
  have it : itemsD δ .seq [pl p] = some (p.map fr) := rfl
  generalize p.map fr = L1 at *
  generalize pl p = P at *
  simp [n1, it, e1, e2, L, S, bin_mul, ml, Md]
theorem C_plain (k : Nat) (hk : 4 ≤ k) (δ : Dl) {p : List Rat} {M : Rat} {row : List Int} (C : Cp p M row) (np : p ≠ []) (hp : Hb 22 p) (lp : p.length ≤ 4) : callE (PF k) f_plain [pl p] δ = .ok (.tup (row.map .int)) δ := by
  obtain ⟨k, rfl⟩ : ∃ m, k = m + 1 := ⟨k - 1, by omega⟩
  refine call_ok ?_ rfl rfl
  rw [F_at (d := d_plain) [some (pl p), none, none] rfl rfl rfl]
  have Ct := C_content k (by omega) δ C np hp lp
  have n1 : eqD (pl p) (.tup []) = some false := by rw [eqD_plnil, decide_eq_false np]
  have L := lc_list (g := .name 2) (c := fun _ δ => .ok true δ) (e := (evA' (PF k) e1_plain).v) (σ := [some (pl p), some (fr M), none]) (δ := δ) fr (fun a => .int (a / M).num) p fun a ha =>
    ⟨[some (pl p), some (fr M), some (fr a)], by simp, rfl, by simp [e1_plain, C_over k (by omega) δ ((hp.fb ha).mono (show 22 ≤ 4400 by omega)) (C.fm.mono (show 600 ≤ 4400 by omega)) C.m0], rfl⟩
  have e : p.map (fun a => D.int (a / M).num) = row.map .int := by rw [C.rw_, List.map_map]; rfl
  rw [e] at L
  have hl : ¬ 1000000 < p.length := by omega
  simp only [d_plain, m_plain]
  generalize row.map D.int = L2 at *
  simp [n1, Ct, hl, L]
theorem C_of_wholes (k : Nat) (hk : 2 ≤ k) (δ : Dl) (row : List Int) (hl : row.length ≤ 1000) : callE (PF k) f_of_wholes [.tup (row.map .int)] δ = .ok (pl (trim (row.map fun (w : Int) => (w : Rat)))) δ := by
  obtain ⟨k, rfl⟩ : ∃ m, k = m + 1 := ⟨k - 1, by omega⟩
  refine call_ok ?_ rfl rfl
  rw [F_at (d := d_of_wholes) [some (.tup (row.map .int)), none] rfl rfl rfl]
  have L := lc_list (g := .name 1) (c := fun _ δ => .ok true δ) (e := (evA' (PF k) e1_of_wholes).v) (σ := [some (.tup (row.map .int)), none]) (δ := δ) .int (fun w : Int => fr (w : Rat)) row fun a ha =>
    ⟨[some (.tup (row.map .int)), some (.int a)], by simp, rfl, by simp [e1_of_wholes, C_of k (by omega) δ a], rfl⟩
  have e : row.map (fun w : Int => fr (w : Rat)) = (row.map fun (w : Int) => (w : Rat)).map fr := by rw [List.map_map]; rfl
  rw [e] at L
  have C := C_cutL k (by omega) δ (row.map fun (w : Int) => (w : Rat)) (by rw [List.length_map]; omega)
  have hl2 : ¬ 1000000 < (row.map D.int).length := by rw [List.length_map]; omega
  simp only [d_of_wholes, m_of_wholes]
  generalize row.map (fun (w : Int) => (w : Rat)) = Z at *
  generalize row.map D.int = L2 at *
  simp [hl2, L, C]
theorem C_lgcd (k : Nat) (hk : 1 ≤ k) (δ : Dl) (a b : Int) (hb : b.natAbs < 2 ^ 8990) : callE (PF k) f_law_gcd [.int a, .int b] δ = .ok (.int (Int.gcd a b)) δ := by
  obtain ⟨k, rfl⟩ : ∃ m, k = m + 1 := ⟨k - 1, by omega⟩
  refine call_ok ?_ rfl rfl
  rw [F_at (d := d_law_gcd) [some (.int a), some (.int b)] rfl rfl rfl]
  have h := gcd_whl (c := (evA' (PF k) c1_law_gcd).t) (b := evS (PF k) fuel b1_law_gcd) (δ := δ) (fun a z => [some (.int a), some (.int z)]) (fun a => by simp [c1_law_gcd]) (fun a z hz => by simp [c1_law_gcd]; omega) (fun a z hz => by simp [b1_law_gcd, hz, fmod_nat']) 8990 fuel a.natAbs b.natAbs hb fuel_ge
  simp only [d_law_gcd, m_law_gcd]
  simp [h]
  rfl
theorem lp_loop (k : Nat) (hk : 1 ≤ k) {δ : Dl} (s0 s3 s4 : Option D) : ∀ (row : List Int) (t : Nat) (s2 : Option D), (∀ w, w ∈ row → w.natAbs < 2 ^ 8990) →
    ∃ t2, forGo (.name 2) (evS (PF k) fuel b1_law_plain) (row.map .int) [s0, some (.int (t : Nat)), s2, s3, s4] δ = .nx [s0, some (.int (gcF row t : Nat)), t2, s3, s4] δ
  | [], t, s2, _ => ⟨s2, rfl⟩
  | w :: row, t, s2, h => by
    obtain ⟨t2, e⟩ := lp_loop k hk (δ := δ) s0 s3 s4 row (Int.gcd (t : Int) w) (some (.int w)) fun v hv => h v (List.mem_cons_of_mem _ hv)
    refine ⟨t2, ?_⟩
    have S := C_lgcd k hk δ (t : Nat) w (h w List.mem_cons_self)
    rw [List.map_cons, forGo_nx (σ1 := [s0, some (.int (t : Nat)), some (.int w), s3, s4]) (σ2 := [s0, some (.int ((Int.gcd (t : Int) w : Nat) : Int)), some (.int w), s3, s4]) (δ2 := δ) (by simp) (by simp [b1_law_plain, S]), e]
    rfl
theorem lp_cut (k : Nat) (hk : 1 ≤ k) (δ : Dl) : callE (PF k) f_cut [.lst [.tup [.int 0, .int 1], .tup [.int 0, .int 1]]] δ = .ok (pl []) δ := by
  have C := C_cutL k hk δ [0, 0] (by simp)
  have e : trim [(0 : Rat), 0] = [] := by decide +kernel
  rw [e] at C
  have C : callE (PF k) f_cut [.lst [fr 0, fr 0]] δ = .ok (pl []) δ := C
  rw [← fr0] at C
  exact C
theorem lp_plain0 (k : Nat) (hk : 1 ≤ k) (δ : Dl) : callE (PF k) f_plain [.tup []] δ = .ok (pl []) δ := by
  obtain ⟨k, rfl⟩ : ∃ m, k = m + 1 := ⟨k - 1, by omega⟩
  refine call_ok ?_ rfl rfl
  rw [F_at (d := d_plain) [some (.tup []), none, none] rfl rfl rfl, plNil]
  simp only [d_plain, m_plain]
  simp
  rfl
theorem C_law_plain (k : Nat) (hk : 6 ≤ k) (δ : Dl) {p : List Rat} (tp : Tr p) (np : p ≠ []) (hp : Hb 22 p) (lp : p.length ≤ 4) : callE (PF k) f_law_plain [pl p] δ = .ok (.bl true) δ := by
  obtain ⟨M, row, C⟩ := cp tp np hp lp
  obtain ⟨k, rfl⟩ : ∃ m, k = m + 1 := ⟨k - 1, by omega⟩
  refine call_ok ?_ rfl rfl
  rw [F_at (d := d_law_plain) [some (pl p), none, none, none, none] rfl rfl rfl]
  have lp0 := List.length_pos_iff.mpr np
  have lrow : row.length = p.length := by rw [C.rw_, List.length_map]
  have Pl := C_plain k (by omega) δ C np hp lp
  have Ct := C_content k (by omega) δ C np hp lp
  have Ow := C_of_wholes k (by omega) δ row (by omega)
  have fq : ∀ a, a ∈ p → Fb 700 (a / M) := fun a ha => ((hp.fb ha).div C.fm).mono (by omega)
  have eW : (row.map fun (w : Int) => (w : Rat)) = p.map fun a => a / M := by
    rw [C.rw_, List.map_map]
    exact List.map_congr_left fun a ha => C.val a ha
  have lW := trim_len (p.map fun a => a / M)
  rw [List.length_map] at lW
  rw [eW] at Ow
  have Sc := C_scaled k (by omega) δ (p := trim (p.map fun a => a / M)) (c := M) (by omega) (fun a ha => by
    obtain ⟨b, hb, rfl⟩ := List.mem_map.mp (trim_mem ha)
    exact (fq b hb).mono (by omega)) (C.fm.mono (by omega))
  have eS : pscal (trim (p.map fun a => a / M)) M = p := by
    have e1 : trim (p.map fun a => a / M) = pscal p (1 / M) := by
      unfold pscal
      congr 1
      exact List.map_congr_left fun a _ => by
        have := C.m0
        grind
    rw [e1, pscal_pscal, show 1 / M * M = 1 by have := C.m0; grind, pscal_1 tp]
  rw [eS] at Sc
  have F := lcGo_map (g := .name 2) (c := (evA' (PF k) c1_law_plain).t) (e := (evA' (PF k) e1_law_plain).v) (σ := [some (pl p), none, none, some (.tup (row.map .int)), some (fr M)]) (δ := δ) D.int D.int (fun _ => false) row fun w hw =>
    ⟨[some (pl p), none, some (.int w), some (.tup (row.map .int)), some (fr M)], by simp, by simp [c1_law_plain], fun z => by cases z⟩
  have ef : row.filter (fun _ => false) = [] := by simp
  rw [ef] at F
  have F : lcGo (.name 2) (evA' (PF k) c1_law_plain).t (evA' (PF k) e1_law_plain).v [some (pl p), none, none, some (.tup (row.map .int)), some (fr M)] (row.map .int) δ = .ok [] δ := F
  have hl2 : ¬ 1000000 < (row.map D.int).length := by rw [List.length_map]; omega
  have lrm : (row.map D.int).length = p.length := by rw [List.length_map, lrow]
  have la : atI (row.map D.int) ((p.length : Int) - 1) = some (.int (lc p / M).num) := by
    rw [show (p.length : Int) - 1 = ((p.length - 1 : Nat) : Int) by omega]
    refine atI_nat ?_
    rw [C.rw_, List.map_map, List.getElem?_map]
    have := cf_getElem (p := p) (k := p.length - 1) (by omega)
    rw [this]
    rfl
  have ls : ¬ (lc p / M).num < 1 := by have := C.last; omega
  obtain ⟨t2, G⟩ := lp_loop k (by omega) (δ := δ) (some (pl p)) (some (.tup (row.map .int))) (some (fr M)) row 0 none (fun w hw => by
    rw [C.rw_] at hw
    obtain ⟨a, ha, rfl⟩ := List.mem_map.mp hw
    exact Nat.lt_of_lt_of_le (fq a ha).1 (pow_le2 (by omega)))
  rw [C.one] at G
  have G : forGo (.name 2) (evS (PF k) fuel b1_law_plain) (row.map .int) [some (pl p), some (.int 0), none, some (.tup (row.map .int)), some (fr M)] δ = .nx [some (pl p), some (.int 1), t2, some (.tup (row.map .int)), some (fr M)] δ := G
  have Cu := lp_cut k (by omega) δ
  have P0 := lp_plain0 k (by omega) δ
  have ee : eqD (.lst []) (.lst []) = some true := by decide +kernel
  have e0 : eqD (pl []) (.tup []) = some true := by rw [eqD_plnil]; rfl
  have hl3 : ¬ 1000000 < p.length := by omega
  generalize (lc p / M).num = y at *
  simp only [d_law_plain, m_law_plain]
  generalize row.map D.int = L2 at *
  generalize trim (p.map fun a => a / M) = W at *
  simp [Pl, Ct, Ow, Sc, hl2, hl3, F, ee, lrm, la, ls, G, t1_law_plain, P0, Cu, e0]
end Mini
namespace Mini
open PySem L2
theorem cnt_dat {a : Rat} {y : PyData} (hy : dat (fr a) = some y) : ∀ (l : List Rat) (xs : List PyData), datL (l.map fr) = some xs → (xs.countP fun z => PyData.eqv z y) = l.count a
  | [], xs, h => by
    unfold datL at h
    cases h
    rfl
  | b :: l, xs, h => by
    rw [List.map_cons] at h
    unfold datL at h
    split at h
    · rename_i x xs' e1 e2
      cases h
      have ih := cnt_dat hy l xs' e2
      have e := eqv_dat _ _ _ _ e1 hy
      rw [deqv_fr] at e
      rw [List.countP_cons, ih, e, List.count_cons]
      by_cases z : b = a
      · subst z; simp
      · simp [z]
    · cases h
theorem cnt_fr (l : List Rat) (a : Rat) : cntD (.lst (l.map fr)) (fr a) = some (.int (l.count a : Nat)) := by
  obtain ⟨x, h1, h2, h3⟩ := dat_plain (.lst (l.map fr)) 64 (by rw [plain_lst]; exact plainL_fr 62 l)
  obtain ⟨y, g1, g2, g3⟩ := dat_plain (fr a) 64 (plain_fr _ _)
  have h1' := h1
  unfold dat at h1'
  rw [Option.map_eq_some_iff] at h1'
  obtain ⟨xs, h4, rfl⟩ := h1'
  have e1 : SeqAt.shaped (.list xs) = true := by unfold SeqAt.shaped; rw [h2, decide_eq_true h3]; rfl
  have e2 : SeqAt.shaped y = true := by unfold SeqAt.shaped; rw [g2, decide_eq_true g3]; rfl
  unfold cntD
  rw [h1, g1]
  simp only [e1, e2, Bool.and_self, if_true]
  rw [cnt_dat g1 l xs h4]
theorem mlst_lst (ts : List D) : (mlst (.lst ts)).isSome = true := rfl
theorem lcA {n c : Nat} (hc : c < n) (s0 s2 s3 s4 s5 s6 s7 s8 s9 s10 s11 s12 s13 s14 s15 s16 s17 s18 : Option D) : ∀ (L : List D) (δ : Dl), Dcs n δ → (∀ x, x ∈ L → isOwn x = false) → ∃ (qs : List Rat) (δ' : Dl), Dcs n δ' ∧ qs.length = L.length ∧ (∀ q, q ∈ qs → Fb 3 q) ∧
    lcGo (.name 17) (fun _ δ => .ok true δ) (evA' (PF 20) e1_law).v [s0, some (.cell c), s2, s3, s4, s5, s6, s7, s8, s9, s10, s11, s12, s13, s14, s15, s16, s17, s18] L δ = .ok (qs.map fr) δ'
  | [], δ, hd, _ => ⟨[], δ, hd, rfl, fun q h => by simp at h, rfl⟩
  | x :: L, δ, hd, hl => by
    obtain ⟨q, δ1, q1, q2, d1, e1⟩ := C_lfrac 20 (by omega) hd hc
    obtain ⟨qs, δ2, d2, l2, h2, e2⟩ := lcA hc s0 s2 s3 s4 s5 s6 s7 s8 s9 s10 s11 s12 s13 s14 s15 s16 s17 s18 L δ1 d1 fun y hy => hl y (List.mem_cons_of_mem _ hy)
    refine ⟨q :: qs, δ2, d2, by simp [l2], fun r hr => (List.mem_cons.mp hr).elim (fun z => by rw [z]; exact ⟨by omega, by omega⟩) (h2 r), ?_⟩
    rw [lcGo_yes (σ1 := [s0, some (.cell c), s2, s3, s4, s5, s6, s7, s8, s9, s10, s11, s12, s13, s14, s15, s16, some x, s18]) (δ1 := δ) (δ2 := δ1) (y := fr q) (by simp [hl x List.mem_cons_self]) rfl (by simp [e1_law, e1]) rfl, e2]
    rfl
theorem lcB {n c : Nat} (hc : c < n) (s0 s2 s3 s4 s5 s6 s7 s8 s9 s10 s11 s12 s13 s14 s15 s16 s17 s18 : Option D) : ∀ (L : List D) (δ : Dl), Dcs n δ → (∀ x, x ∈ L → isOwn x = false) → ∃ (qs : List Rat) (δ' : Dl), Dcs n δ' ∧ qs.length = L.length ∧ (∀ q, q ∈ qs → Fb 3 q) ∧
    lcGo (.name 17) (fun _ δ => .ok true δ) (evA' (PF 20) e2_law).v [s0, some (.cell c), s2, s3, s4, s5, s6, s7, s8, s9, s10, s11, s12, s13, s14, s15, s16, s17, s18] L δ = .ok (qs.map fr) δ'
  | [], δ, hd, _ => ⟨[], δ, hd, rfl, fun q h => by simp at h, rfl⟩
  | x :: L, δ, hd, hl => by
    obtain ⟨q, δ1, q1, q2, d1, e1⟩ := C_lfrac 20 (by omega) hd hc
    obtain ⟨qs, δ2, d2, l2, h2, e2⟩ := lcB hc s0 s2 s3 s4 s5 s6 s7 s8 s9 s10 s11 s12 s13 s14 s15 s16 s17 s18 L δ1 d1 fun y hy => hl y (List.mem_cons_of_mem _ hy)
    refine ⟨q :: qs, δ2, d2, by simp [l2], fun r hr => (List.mem_cons.mp hr).elim (fun z => by rw [z]; exact ⟨by omega, by omega⟩) (h2 r), ?_⟩
    rw [lcGo_yes (σ1 := [s0, some (.cell c), s2, s3, s4, s5, s6, s7, s8, s9, s10, s11, s12, s13, s14, s15, s16, some x, s18]) (δ1 := δ) (δ2 := δ1) (y := fr q) (by simp [hl x List.mem_cons_self]) rfl (by simp [e2_law, e1]) rfl, e2]
    rfl
theorem dI_ne {a b : Int} (ha : a ≠ 0) (hb : b ≠ 0) : Rat.divInt a b ≠ 0 := by
  rw [Rat.divInt_eq_div]
  have h1 : (a : Rat) ≠ 0 := fun z => ha (Rat.intCast_eq_zero_iff.mp z)
  have h2 : (b : Rat) ≠ 0 := fun z => hb (Rat.intCast_eq_zero_iff.mp z)
  intro z
  have : (a : Rat) = (a : Rat) / (b : Rat) * (b : Rat) := by grind
  rw [z] at this
  grind
theorem own_rng (n : Nat) : ∀ x, x ∈ (List.range n).map (fun i => D.int (i : Nat)) → isOwn x = false := fun x hx => by
  obtain ⟨i, _, rfl⟩ := List.mem_map.mp hx
  rfl
theorem dr2 {n c : Nat} {δ : Dl} (hd : Dcs n δ) (hc : c < n) {p q : Rat} (s0 s2 s3 s6 s7 s8 s9 s10 s11 s12 s13 s14 s15 s16 s17 s18 : Option D) : ∃ (l m : List Rat) (δ' : Dl), Dcs n δ' ∧ Sm3 l ∧ Sm3 m ∧
    evS (PF 20) fuel (.asg (.tup [6, 7]) (.tup (.cons (.lc [17] (.name 17) .rng1 (.cons (.call f_law_roll (.cons (.var 1) (.cons (.int 4) .nil))) .nil) .np e1_law) (.cons (.lc [17] (.name 17) .rng1 (.cons (.call f_law_roll (.cons (.var 1) (.cons (.int 4) .nil))) .nil) .np e2_law) .nil)))) [s0, some (.cell c), s2, s3, some (fr p), some (fr q), s6, s7, s8, s9, s10, s11, s12, s13, s14, s15, s16, s17, s18] δ = .nx [s0, some (.cell c), s2, s3, some (fr p), some (fr q), some (.lst (l.map fr)), some (.lst (m.map fr)), s8, s9, s10, s11, s12, s13, s14, s15, s16, s17, s18] δ' := by
  obtain ⟨r, δ1, r0, r1, d1, e1⟩ := C_roll 20 (by omega) hd hc 4 (by omega) (by omega)
  have R1 := items_rng (δ := δ1) (n := r) (rOk_le (by omega) (by omega))
  obtain ⟨l, δ2, d2, l1, l2, e2⟩ := lcA hc s0 s2 s3 (some (fr p)) (some (fr q)) s6 s7 s8 s9 s10 s11 s12 s13 s14 s15 s16 none s18 ((List.range r.toNat).map fun i => D.int (i : Nat)) δ1 d1 (own_rng _)
  obtain ⟨t, δ3, t0, t1, d3, e3⟩ := C_roll 20 (by omega) d2 hc 4 (by omega) (by omega)
  have R2 := items_rng (δ := δ3) (n := t) (rOk_le (by omega) (by omega))
  obtain ⟨m, δ4, d4, m1, m2, e4⟩ := lcB hc s0 s2 s3 (some (fr p)) (some (fr q)) s6 s7 s8 s9 s10 s11 s12 s13 s14 s15 s16 none s18 ((List.range t.toNat).map fun i => D.int (i : Nat)) δ3 d3 (own_rng _)
  rw [rng_len'] at l1 m1
  refine ⟨l, m, δ4, d4, ⟨l2, by omega⟩, ⟨m2, by omega⟩, ?_⟩
  have h1 : ¬ 1000000 < ((List.range r.toNat).map fun i => D.int (i : Nat)).length := by rw [rng_len']; omega
  have h2 : ¬ 1000000 < ((List.range t.toNat).map fun i => D.int (i : Nat)).length := by rw [rng_len']; omega
  generalize (List.range r.toNat).map (fun i => D.int (i : Nat)) = A at *
  generalize (List.range t.toNat).map (fun i => D.int (i : Nat)) = B at *
  generalize l.map fr = L at *
  generalize m.map fr = M at *
  simp [e1, R1, h1, e2, e3, R2, h2, e4]
theorem dr1 {n c : Nat} {δ : Dl} (hd : Dcs n δ) (hc : c < n) (s0 s2 s3 s4 s5 s6 s7 s8 s9 s10 s11 s12 s13 s14 s15 s16 s17 s18 : Option D) : ∃ (p q : Rat) (δ' : Dl), Dcs n δ' ∧ p ≠ 0 ∧ q ≠ 0 ∧ Fb 3 p ∧ Fb 3 q ∧
    evS (PF 20) fuel (.par [(4, false), (5, false)] (.cons (.call f_law_made (.cons (.bin .Add (.int 1) (.call f_law_roll (.cons (.var 1) (.cons (.int 5) .nil)))) (.cons (.bin .Add (.int 1) (.call f_law_roll (.cons (.var 1) (.cons (.int 3) .nil)))) .nil))) (.cons (.call f_law_made (.cons (.bin .Sub (.bin .Sub (.int 0) (.int 1)) (.call f_law_roll (.cons (.var 1) (.cons (.int 4) .nil)))) (.cons (.bin .Add (.int 1) (.call f_law_roll (.cons (.var 1) (.cons (.int 2) .nil)))) .nil))) .nil))) [s0, some (.cell c), s2, s3, s4, s5, s6, s7, s8, s9, s10, s11, s12, s13, s14, s15, s16, s17, s18] δ = .nx [s0, some (.cell c), s2, s3, some (fr p), some (fr q), s6, s7, s8, s9, s10, s11, s12, s13, s14, s15, s16, s17, s18] δ' := by
  obtain ⟨r, δ1, r0, r1, d1, e1⟩ := C_roll 20 (by omega) hd hc 5 (by omega) (by omega)
  obtain ⟨t, δ2, t0, t1, d2, e2⟩ := C_roll 20 (by omega) d1 hc 3 (by omega) (by omega)
  obtain ⟨u, δ3, u0, u1, d3, e3⟩ := C_roll 20 (by omega) d2 hc 4 (by omega) (by omega)
  obtain ⟨v, δ4, v0, v1, d4, e4⟩ := C_roll 20 (by omega) d3 hc 2 (by omega) (by omega)
  have M1 := C_lmade 20 (by omega) δ2 (1 + r) (1 + t) (by omega) (Nat.lt_of_lt_of_le (show (1 + t).natAbs < 2 ^ 2 by omega) (pow_le2 (by omega)))
  have M2 := C_lmade 20 (by omega) δ4 (-1 - u) (1 + v) (by omega) (Nat.lt_of_lt_of_le (show (1 + v).natAbs < 2 ^ 2 by omega) (pow_le2 (by omega)))
  refine ⟨Rat.divInt (1 + r) (1 + t), Rat.divInt (-1 - u) (1 + v), δ4, d4, dI_ne (by omega) (by omega), dI_ne (by omega) (by omega), Fb.divInt (by omega) (by omega) (by omega), Fb.divInt (by omega) (by omega) (by omega), ?_⟩
  generalize Rat.divInt (1 + r) (1 + t) = p at *
  generalize Rat.divInt (-1 - u) (1 + v) = q at *
  simp [e1, e2, e3, e4, M1, M2]
theorem tm1 : D.tup [.int (-1), .int 1] = fr (-1) := frI (-1)
theorem lor_loop (k : Nat) (hk : 4 ≤ k) {δ : Dl} (s0 s1 : Option D) : ∀ (l f : List Rat) (n : Nat) (s3 : Option D), Tr f → f ≠ [] → f.length + l.length ≤ 5 → (∀ a, a ∈ l → Fb 3 a) → Hb n f → n + l.length * 6 ≤ 100 →
    ∃ t3, forGo (.name 3) (evS (PF k) fuel b1_law_of_roots) (l.map fr) [s0, s1, some (pl f), s3] δ = .nx [s0, s1, some (pl (ofR f l)), t3] δ
  | [], f, n, s3, _, _, _, _, _, _ => ⟨s3, rfl⟩
  | a :: l, f, n, s3, tf, nf, len, hl, hf, hs => by
    rw [List.length_cons] at len hs
    have fa := hl a List.mem_cons_self
    have l1 := lin_len a tf nf
    have hm : f.length * ([-a, 1] : List Rat).length ≤ 2 ^ 3 := by simp; omega
    have h1 : Hb (n + 6) (pmul f [-a, 1]) := Hb.mono (hf.pmul (hb_lin fa) hm) (by omega)
    have M := C_lmul k (by omega) δ (a := -1) (b := a) ((fb_int (n := 1) (i := -1) (by decide) (by omega)).mono (by omega)) (fa.mono (by omega))
    rw [show -1 * a = -a by grind] at M
    have P := C_product k (by omega) δ hf (hb_lin fa) hm (by omega) (by omega) (by simp)
    have T : D.tup [fr (-a), fr 1] = pl [-a, 1] := rfl
    obtain ⟨t3, e⟩ := lor_loop k hk (δ := δ) s0 s1 l (pmul f [-a, 1]) (n + 6) (some (fr a)) (pmul_tr _ _) (by rw [pmul_lin]; exact lin_ne a tf nf) (by rw [pmul_lin]; omega) (fun b hb => hl b (List.mem_cons_of_mem _ hb)) h1 (by omega)
    refine ⟨t3, ?_⟩
    rw [List.map_cons, forGo_nx (σ1 := [s0, s1, some (pl f), some (fr a)]) (σ2 := [s0, s1, some (pl (pmul f [-a, 1])), some (fr a)]) (δ2 := δ) (by simp) (by
      generalize pmul f [-a, 1] = F at *
      simp [b1_law_of_roots, tm1, M, fr1, T, P]), e]
    rfl
theorem C_lor (k : Nat) (hk : 5 ≤ k) (δ : Dl) {p : Rat} {l : List Rat} (I : Fp p l) : callE (PF k) f_law_of_roots [fr p, .lst (l.map fr)] δ = .ok (pl (pscal (rt l) p)) δ := by
  obtain ⟨k, rfl⟩ : ∃ m, k = m + 1 := ⟨k - 1, by omega⟩
  refine call_ok ?_ rfl rfl
  rw [F_at (d := d_law_of_roots) [some (fr p), some (.lst (l.map fr)), none, none] rfl rfl rfl]
  have len := I.sm.len
  obtain ⟨t3, e⟩ := lor_loop k (by omega) (δ := δ) (some (fr p)) (some (.lst (l.map fr))) l [p] 3 none (.inr I.p0) (by simp) (by simp; omega) I.sm.fb I.fp.hb (by omega)
  rw [ofR_scal I.p0] at e
  have T : D.tup [fr p] = pl [p] := rfl
  simp only [d_law_of_roots, m_law_of_roots]
  generalize l.map fr = L at *
  generalize pscal (rt l) p = F at *
  simp [T, e]
theorem due_in {δ : Dl} {a : Rat} (ha : Fb 3 a) (s0 s4 s5 s6 s7 s8 s9 s11 s12 s13 s14 s15 s16 s17 s18 s1 : Option D) : ∀ (m : List Rat) (x : Rat) (n : Nat) (s10 : Option D), (∀ b, b ∈ m → Fb 3 b) → Fb n x → n + m.length * 8 ≤ 1000 →
    ∃ t10, forGo (.name 10) (evS (PF 20) fuel b1_law) (m.map fr) [s0, s1, some (fr x), some (fr a), s4, s5, s6, s7, s8, s9, s10, s11, s12, s13, s14, s15, s16, s17, s18] δ = .nx [s0, s1, some (fr (x * prodR (fun b => a - b) m)), some (fr a), s4, s5, s6, s7, s8, s9, t10, s11, s12, s13, s14, s15, s16, s17, s18] δ ∧ Fb (n + m.length * 8) (x * prodR (fun b => a - b) m)
  | [], x, n, s10, _, hx, _ => by
    refine ⟨s10, ?_, ?_⟩
    · show _ = _
      rw [show x * prodR (fun b => a - b) [] = x by show x * 1 = x; grind]
      rfl
    · rw [show x * prodR (fun b => a - b) [] = x by show x * 1 = x; grind]
      exact hx.mono (by omega)
  | b :: m, x, n, s10, hm, hx, hs => by
    rw [List.length_cons] at hs
    have fb := hm b List.mem_cons_self
    have fm : Fb 1 (-1 : Rat) := fb_int (n := 1) (i := -1) (by decide) (by omega)
    have M := C_lmul 20 (by omega) δ (a := -1) (b := b) (fm.mono (by omega)) (fb.mono (by omega))
    have f1 := ha.add (fm.mul fb)
    have A := C_ladd 20 (by omega) δ (a := a) (b := -1 * b) (ha.mono (by omega)) ((fm.mul fb).mono (by omega))
    have M2 := C_lmul 20 (by omega) δ (a := x) (b := a + -1 * b) (hx.mono (by omega)) (f1.mono (by omega))
    have h2 : Fb (n + 8) (x * (a + -1 * b)) := (hx.mul f1).mono (by omega)
    obtain ⟨t10, e, h3⟩ := due_in (δ := δ) ha s0 s4 s5 s6 s7 s8 s9 s11 s12 s13 s14 s15 s16 s17 s18 s1 m (x * (a + -1 * b)) (n + 8) (some (fr b)) (fun d hd => hm d (List.mem_cons_of_mem _ hd)) h2 (by omega)
    have ex : x * (a + -1 * b) * prodR (fun b => a - b) m = x * prodR (fun b => a - b) (b :: m) := by
      show _ = x * ((a - b) * prodR (fun b => a - b) m)
      grind
    rw [ex] at e h3
    refine ⟨t10, ?_, h3.mono (by rw [List.length_cons]; omega)⟩
    rw [List.map_cons, forGo_nx (σ1 := [s0, s1, some (fr x), some (fr a), s4, s5, s6, s7, s8, s9, some (fr b), s11, s12, s13, s14, s15, s16, s17, s18]) (σ2 := [s0, s1, some (fr (x * (a + -1 * b))), some (fr a), s4, s5, s6, s7, s8, s9, some (fr b), s11, s12, s13, s14, s15, s16, s17, s18]) (δ2 := δ) (by simp) (by
      generalize x * (a + -1 * b) = y at *
      generalize a + -1 * b = z at *
      generalize -1 * b = w at *
      simp [b1_law, tm1, M, A, M2]), e]
theorem due_out {δ : Dl} {m : List Rat} (hm : Sm3 m) (s0 s1 s4 s5 s6 s8 s9 s11 s12 s13 s14 s15 s16 s17 s18 : Option D) : ∀ (l : List Rat) (x : Rat) (n : Nat) (s3 s10 : Option D), (∀ b, b ∈ l → Fb 3 b) → Fb n x → n + l.length * 24 ≤ 900 →
    ∃ t3 t10, forGo (.name 3) (evS (PF 20) fuel b2_law) (l.map fr) [s0, s1, some (fr x), s3, s4, s5, s6, some (.lst (m.map fr)), s8, s9, s10, s11, s12, s13, s14, s15, s16, s17, s18] δ = .nx [s0, s1, some (fr (x * prodR (fun a => prodR (fun b => a - b) m) l)), t3, s4, s5, s6, some (.lst (m.map fr)), s8, s9, t10, s11, s12, s13, s14, s15, s16, s17, s18] δ
  | [], x, n, s3, s10, _, hx, _ => ⟨s3, s10, by
      rw [show x * prodR (fun a => prodR (fun b => a - b) m) [] = x by show x * 1 = x; grind]
      rfl⟩
  | a :: l, x, n, s3, s10, hl, hx, hs => by
    rw [List.length_cons] at hs
    have lm := hm.len
    obtain ⟨t10, e1, h1⟩ := due_in (δ := δ) (hl a List.mem_cons_self) s0 s4 s5 s6 (some (.lst (m.map fr))) s8 s9 s11 s12 s13 s14 s15 s16 s17 s18 s1 m x n s10 hm.fb hx (by omega)
    obtain ⟨u3, u10, e2⟩ := due_out (δ := δ) hm s0 s1 s4 s5 s6 s8 s9 s11 s12 s13 s14 s15 s16 s17 s18 l (x * prodR (fun b => a - b) m) (n + 24) (some (fr a)) t10 (fun d hd => hl d (List.mem_cons_of_mem _ hd)) (h1.mono (by omega)) (by omega)
    have ex : x * prodR (fun b => a - b) m * prodR (fun a => prodR (fun b => a - b) m) l = x * prodR (fun a => prodR (fun b => a - b) m) (a :: l) := by
      show _ = x * (prodR (fun b => a - b) m * prodR (fun a => prodR (fun b => a - b) m) l)
      grind
    rw [ex] at e2
    refine ⟨u3, u10, ?_⟩
    rw [List.map_cons, forGo_nx (σ1 := [s0, s1, some (fr x), some (fr a), s4, s5, s6, some (.lst (m.map fr)), s8, s9, s10, s11, s12, s13, s14, s15, s16, s17, s18]) (σ2 := [s0, s1, some (fr (x * prodR (fun b => a - b) m)), some (fr a), s4, s5, s6, some (.lst (m.map fr)), s8, s9, t10, s11, s12, s13, s14, s15, s16, s17, s18]) (δ2 := δ) (by simp) (by
      generalize m.map fr = MM at *
      simp [b2_law, e1]), e2]
end Mini
namespace Mini
open PySem L2
theorem pmul_rt (a b : List Rat) : pmul (rt a) (rt b) = rt (a ++ b) := evq_ext (pmul_tr _ _) (rt_tr _) fun x => by rw [evq_pmul, rt_append]
theorem pmul_rtp (a b : List Rat) (p : Rat) : pmul (pscal (rt a) p) (rt b) = pscal (rt (a ++ b)) p := evq_ext (pmul_tr _ _) (pscal_tr _ _) fun x => by rw [evq_pmul, evq_pscal, evq_pscal, rt_append]; grind
def rpt (t : List Rat) : Nat → List Rat
  | 0 => []
  | i + 1 => rpt t i ++ t
theorem rpt_count (t : List Rat) (a : Rat) : ∀ i : Nat, (rpt t i).count a = i * t.count a
  | 0 => by rw [Nat.zero_mul]; rfl
  | i + 1 => by
    show (rpt t i ++ t).count a = _
    rw [List.count_append, rpt_count t a i, Nat.add_mul, Nat.one_mul]
theorem rpt_nil : ∀ i : Nat, rpt [] i = []
  | 0 => rfl
  | i + 1 => by
    show rpt [] i ++ [] = []
    rw [rpt_nil i]; rfl
def wh (l : List Rat) : Nat → List Rat
  | 0 => []
  | k + 1 => wh l k ++ rpt (tK l (k + 1)) (k + 1)
theorem wh_count (l : List Rat) (a : Rat) : ∀ k : Nat, (wh l k).count a = if l.count a ≤ k then l.count a else 0
  | 0 => by
    show (0 : Nat) = _
    split <;> omega
  | k + 1 => by
    show (wh l k ++ rpt (tK l (k + 1)) (k + 1)).count a = _
    rw [List.count_append, wh_count l a k, rpt_count, tK_count l (by omega)]
    by_cases h : l.count a = k + 1
    · rw [h, if_neg (by omega), if_pos rfl, if_pos (by omega)]; omega
    · rw [if_neg h]
      by_cases h2 : l.count a ≤ k
      · rw [if_pos h2, if_pos (by omega)]; omega
      · rw [if_neg h2, if_neg (by omega)]; omega
theorem wh_perm {l : List Rat} (h : l.length ≤ 3) : (wh l 3).Perm l := List.perm_iff_count.mpr fun a => by
  have := List.count_le_length (a := a) (l := l)
  rw [wh_count, if_pos (by omega)]
theorem wh_sm {l : List Rat} (S : Sm3 l) (k : Nat) : Sm3 (wh l k) := S.sub fun a => by
  rw [wh_count]
  split <;> omega
theorem rpt_sm {l : List Rat} (S : Sm3 l) {k i : Nat} (hk : 1 ≤ k) (hi : i ≤ k) : Sm3 (rpt (tK l k) i) := S.sub fun a => by
  rw [rpt_count, tK_count l hk]
  split
  · omega
  · omega
theorem tK_sm {l : List Rat} (S : Sm3 l) {k : Nat} (hk : 1 ≤ k) : Sm3 (tK l k) := S.sub fun a => by
  rw [tK_count l hk]
  split <;> omega
def ofn (l : List Rat) : Nat → List Int
  | 0 => []
  | k + 1 => ofn l k ++ (if tK l (k + 1) = [] then [] else [((k + 1 : Nat) : Int)])
theorem ofn_len (l : List Rat) : ∀ k : Nat, (ofn l k).length ≤ k
  | 0 => Nat.le_refl _
  | k + 1 => by
    have := ofn_len l k
    show (ofn l k ++ (if tK l (k + 1) = [] then [] else [((k + 1 : Nat) : Int)])).length ≤ _
    rw [List.length_append]
    split <;> simp <;> omega
theorem rs_loop9 (k : Nat) (hk : 4 ≤ k) {δ : Dl} {t : List Rat} {N : Nat} (hS : ∀ i, i ≤ N → Sm3 (rpt t i)) (ht : Sm3 t) (s1 : Option D) : ∀ (L : List D) (j : Nat) (s3 : Option D), (∀ x, x ∈ L → isOwn x = false) → j + L.length ≤ N →
    ∃ t3, forGo (.name 3) (evS (PF k) fuel b1_raised) L [some (pl (rt t)), s1, some (pl (rt (rpt t j))), s3] δ = .nx [some (pl (rt t)), s1, some (pl (rt (rpt t (j + L.length)))), t3] δ
  | [], j, s3, _, _ => ⟨s3, rfl⟩
  | x :: L, j, s3, hL, h => by
    rw [List.length_cons] at h
    obtain ⟨t3, e⟩ := rs_loop9 k hk (δ := δ) hS ht s1 L (j + 1) (some x) (fun d hd => hL d (List.mem_cons_of_mem _ hd)) (by omega)
    refine ⟨t3, ?_⟩
    have l1 := (hS j (by omega)).ll
    have l2 := ht.ll
    have P := C_product k hk δ (hS j (by omega)).hb ht.hb (c := 4) (Nat.le_trans (Nat.mul_le_mul l1 l2) (by decide)) (by omega) (by omega) (by omega)
    rw [pmul_rt] at P
    rw [List.length_cons, show j + (L.length + 1) = j + 1 + L.length by omega, ← e]
    have P : callE (PF k) f_product [pl (rt (rpt t j)), pl (rt t)] δ = .ok (pl (rt (rpt t (j + 1)))) δ := P
    exact forGo_nx (σ1 := [some (pl (rt t)), s1, some (pl (rt (rpt t j))), some x]) (by simp [hL x List.mem_cons_self]) (by
      generalize rt (rpt t (j + 1)) = R1 at *
      generalize rt (rpt t j) = R2 at *
      simp [b1_raised, P])
theorem gONE9 (k : Nat) : (PF k).G g_ONE = pl [1] := by
  show D.tup [D.tup [.int 1, .int 1]] = _
  rw [fr1]; rfl
theorem C_raised9 (k : Nat) (hk : 5 ≤ k) (δ : Dl) {t : List Rat} {N : Nat} (hN : N ≤ 100) (hS : ∀ i, i ≤ N → Sm3 (rpt t i)) (ht : Sm3 t) : callE (PF k) f_raised [pl (rt t), .int (N : Nat)] δ = .ok (pl (rt (rpt t N))) δ := by
  obtain ⟨k, rfl⟩ : ∃ m, k = m + 1 := ⟨k - 1, by omega⟩
  refine call_ok ?_ rfl rfl
  rw [F_at (d := d_raised) [some (pl (rt t)), some (.int (N : Nat)), none, none] rfl rfl rfl]
  have R := items_rng (δ := δ) (n := ((N : Nat) : Int)) (rOk_le (by omega) (by omega))
  rw [show ((N : Nat) : Int).toNat = N from rfl] at R
  obtain ⟨t3, e⟩ := rs_loop9 k (by omega) (δ := δ) hS ht (some (.int (N : Nat))) ((List.range N).map fun i => D.int (i : Nat)) 0 none (own_rng _) (by rw [rng_len']; omega)
  rw [rng_len', Nat.zero_add] at e
  have e : forGo (.name 3) (evS (PF k) fuel b1_raised) ((List.range N).map fun i => D.int (i : Nat)) [some (pl (rt t)), some (.int (N : Nat)), some (pl [1]), none] δ = .nx [some (pl (rt t)), some (.int (N : Nat)), some (pl (rt (rpt t N))), t3] δ := e
  simp only [d_raised, m_raised]
  generalize (List.range N).map (fun i => D.int (i : Nat)) = rl at *
  generalize rt (rpt t N) = R1 at *
  generalize rt t = R2 at *
  simp [gONE9, R, e]
abbrev eSum : E := .call f_law_sum (.cons (.lc [17] (.name 17) .rng1 (.cons (.blt .len (.cons (.var 15) .nil)) .nil) .np e3_law) .nil)
theorem lsum9 (δ : Dl) {P : List Rat} {x : Rat} (hp : Hb 20 P) (hx : Fb 3 x) (lp : P.length ≤ 4) (lp1 : 1 ≤ P.length) (s0 s1 s2 s3 s4 s5 s6 s7 s8 s9 s10 s11 s12 s13 s14 s16 s17 : Option D) : (evA' (PF 20) eSum).v [s0, s1, s2, s3, s4, s5, s6, s7, s8, s9, s10, s11, s12, s13, s14, some (pl P), s16, s17, some (fr x)] δ = .ok (fr (ev P x)) δ := by
  have pw : ∀ i, i < P.length → Fb 20 (x ^ i) := fun i hi => (hx.pow i).mono (by omega)
  have term : ∀ i, i < P.length → Fb 4400 (cf P i * x ^ i) := fun i hi => ((hp.cf i).mul (pw i hi)).mono (by omega)
  have R := items_rng (δ := δ) (n := ((P.length : Nat) : Int)) (rOk_le (by omega) (by omega))
  rw [show ((P.length : Nat) : Int).toNat = P.length from rfl] at R
  have L := lc_range (g := .name 17) (c := fun _ δ => .ok true δ) (e := (evA' (PF 20) e3_law).v) (σ := [s0, s1, s2, s3, s4, s5, s6, s7, s8, s9, s10, s11, s12, s13, s14, some (pl P), s16, none, some (fr x)]) (δ := δ) (n := P.length) (fun i => .int (i : Nat)) (fun i => fr (cf P i * x ^ i)) fun i hi => by
    refine ⟨[s0, s1, s2, s3, s4, s5, s6, s7, s8, s9, s10, s11, s12, s13, s14, some (pl P), s16, some (.int (i : Nat)), some (fr x)], by simp, rfl, ?_, rfl⟩
    have A := C_lraise 20 (by omega) δ (x := x) i (by omega) (fun j hj => (pw j (by omega)).mono (by omega)) (hx.mono (by omega))
    have T := C_lmul 20 (by omega) δ (a := cf P i) (b := x ^ i) ((hp.cf i).mono (by omega)) ((pw i hi).mono (by omega))
    simp [e3_law, atI_fr hi, A, T]
  have e : (List.range P.length).map (fun i => fr (cf P i * x ^ i)) = ((List.range P.length).map fun i => cf P i * x ^ i).map fr := by rw [List.map_map]; rfl
  rw [e] at L
  have Sm := C_lsum 20 (by omega) δ ((List.range P.length).map fun i => cf P i * x ^ i) (fun c hc => by
    obtain ⟨i, hi, rfl⟩ := List.mem_map.mp hc
    exact term i (List.mem_range.mp hi)) (fun i hi => by
    rw [List.length_map, List.length_range] at hi
    rw [take_sm _ hi, ev_take P x hi]
    have h1 := (hp.sub (r := P.take i) fun q hq => List.mem_of_mem_take hq).ev hx
    rw [List.length_take] at h1
    exact h1.mono (by omega))
  rw [foldl_sm, ← evq_sm P x P.length (Nat.le_refl _)] at Sm
  have hl : ¬ 1000000 < ((List.range P.length).map fun i => D.int (i : Nat)).length := by rw [rng_len']; omega
  generalize (List.range P.length).map (fun i => cf P i * x ^ i) = M at *
  generalize (List.range P.length).map (fun i => D.int (i : Nat)) = rl at *
  simp [R, hl, L, Sm]
theorem noroot (δ : Dl) {l : List Rat} (Sl : Sm3 l) {k : Nat} (hk : 1 ≤ k) (s0 s1 s2 s3 s4 s5 s7 s8 s9 s10 s11 s12 s13 s14 s17 : Option D) : lcGo (.name 18) (evA' (PF 20) c1_law).t (evA' (PF 20) e4_law).v [s0, s1, s2, s3, s4, s5, some (.lst (l.map fr)), s7, s8, s9, s10, s11, s12, s13, s14, some (pl (rt (tK l k))), some (.int (k : Nat)), s17, none] (l.map fr) δ = .ok [] δ := by
  have St := tK_sm Sl hk
  have F := lcGo_map (g := .name 18) (c := (evA' (PF 20) c1_law).t) (e := (evA' (PF 20) e4_law).v) (σ := [s0, s1, s2, s3, s4, s5, some (.lst (l.map fr)), s7, s8, s9, s10, s11, s12, s13, s14, some (pl (rt (tK l k))), some (.int (k : Nat)), s17, none]) (δ := δ) fr fr (fun _ => false) l fun a ha => by
    refine ⟨[s0, s1, s2, s3, s4, s5, some (.lst (l.map fr)), s7, s8, s9, s10, s11, s12, s13, s14, some (pl (rt (tK l k))), some (.int (k : Nat)), s17, some (fr a)], by simp, ?_, fun z => by cases z⟩
    have C := cnt_fr l a
    have M := mlst_lst (l.map fr)
    have Sm := lsum9 δ St.hb (Sl.fb a ha) St.ll (by rw [rt_len]; omega) s0 s1 s2 s3 s4 s5 (some (.lst (l.map fr))) s7 s8 s9 s10 s11 s12 s13 s14 (some (.int (k : Nat))) s17
    by_cases h : l.count a = k
    · have z : ev (rt (tK l k)) a = 0 := rt_root.mpr ((tK_mem l hk a).mpr h)
      rw [z] at Sm
      rw [h] at C
      generalize l.map fr = L at *
      generalize rt (tK l k) = R1 at *
      have e1 : evA' (PF 20) c1_law = evA' (PF 20) (.and (.cmp .Eq (.cnt (.var 6) (.var 18)) (.var 16)) (.cmp .NotEq eSum (.tup (.cons (.int 0) (.cons (.int 1) .nil))))) := rfl
      rw [e1, ev_and, ev_cmp, ev_cmp]
      generalize evA' (PF 20) eSum = X at *
      simp [C, M, Sm, fr0]
    · have h2 : ¬ ((l.count a : Nat) : Int) = (k : Nat) := by omega
      generalize l.map fr = L at *
      generalize rt (tK l k) = R1 at *
      simp [c1_law, C, M, h2]
  have ef : l.filter (fun _ => false) = [] := by simp
  rw [ef] at F
  exact F
end Mini
namespace Mini
open PySem L2
theorem step9 {p : Rat} {l : List Rat} (I : Fp p l) (δ : Dl) (j : Nat) (hj : j < 3) (s0 s1 s2 s3 s4 s5 s7 s8 s9 s10 s11 s12 s15 s16 s17 s18 : Option D) : ∃ t15 t16 t17 t18, ∀ rest : List D, forGo (.tup [15, 16]) (evS (PF 20) fuel b3_law) (PD l (j + 1) ++ rest) [s0, s1, s2, s3, s4, s5, some (.lst (l.map fr)), s7, s8, s9, s10, s11, s12, some (pl (pscal (rt (wh l j)) p)), some (.own ((ofn l j).map .int)), s15, s16, s17, s18] δ = forGo (.tup [15, 16]) (evS (PF 20) fuel b3_law) rest [s0, s1, s2, s3, s4, s5, some (.lst (l.map fr)), s7, s8, s9, s10, s11, s12, some (pl (pscal (rt (wh l (j + 1))) p)), some (.own ((ofn l (j + 1)).map .int)), t15, t16, t17, t18] δ := by
  by_cases hz : tK l (j + 1) = []
  · refine ⟨s15, s16, s17, s18, fun rest => ?_⟩
    have e1 : PD l (j + 1) = [] := by unfold PD; rw [if_pos hz]
    have e2 : wh l (j + 1) = wh l j := by
      show wh l j ++ rpt (tK l (j + 1)) (j + 1) = _
      rw [hz, rpt_nil, List.append_nil]
    have e3 : ofn l (j + 1) = ofn l j := by
      show ofn l j ++ (if tK l (j + 1) = [] then [] else [((j + 1 : Nat) : Int)]) = _
      rw [if_pos hz, List.append_nil]
    rw [e1, e2, e3, List.nil_append]
  · have e1 : PD l (j + 1) = [.tup [pl (rt (tK l (j + 1))), .int ((j + 1 : Nat) : Int)]] := by unfold PD; rw [if_neg hz]
    have e3 : (ofn l (j + 1)).map D.int = (ofn l j).map D.int ++ [.int ((j + 1 : Nat) : Int)] := by
      show (ofn l j ++ (if tK l (j + 1) = [] then [] else [((j + 1 : Nat) : Int)])).map D.int = _
      rw [if_neg hz, List.map_append]; rfl
    have St := tK_sm I.sm (k := j + 1) (by omega)
    have Wj : Fp p (wh l j) := ⟨I.p0, I.fp, wh_sm I.sm j⟩
    have Rs := fun i hi => rpt_sm I.sm (k := j + 1) (i := i) (by omega) hi
    have Ra := C_raised9 20 (by omega) δ (N := j + 1) (by omega) Rs St
    have lw := Wj.len
    have lw2 := Wj.sm.len
    have lr := (Rs (j + 1) (by omega)).ll
    have Pr := C_product 20 (by omega) δ Wj.hb (Rs (j + 1) (by omega)).hb (c := 4) (Nat.le_trans (Nat.mul_le_mul (show _ ≤ 4 by omega) lr) (by decide)) (by omega) (by omega) (by omega)
    rw [pmul_rtp] at Pr
    have Pr : callE (PF 20) f_product [pl (pscal (rt (wh l j)) p), pl (rt (rpt (tK l (j + 1)) (j + 1)))] δ = .ok (pl (pscal (rt (wh l (j + 1))) p)) δ := Pr
    have lt := St.ll
    have lt2 := rt_len (tK l (j + 1))
    have Sl := C_slope 20 (by omega) δ St.hb (by omega) (by omega)
    have ls := pslope_len (rt (tK l (j + 1)))
    have Dv := C_divis 20 (by omega) δ 6 26 26 (p := rt (tK l (j + 1))) (q := pslope (rt (tK l (j + 1)))) (by omega) (by omega) (rt_tr _) (pslope_tr _) (by omega) (by omega) (St.hb.mono (by omega)) ((St.hb.pslope (by omega)).mono (by omega)) (by omega) (by omega) (rt_ne _) (okd4 ⟨_, by omega⟩ ⟨_, by omega⟩)
    rw [rt_gcd_slope (by omega), dd_nil (fun a => by
      rw [tK_count l (by omega)]
      split <;> omega)] at Dv
    have Dg := C_degree 20 (by omega) δ (rt [])
    rw [rt_len] at Dg
    have la : atI ((rt (tK l (j + 1))).map fr) (((rt (tK l (j + 1))).length : Int) - 1) = some (fr 1) := by
      rw [show ((rt (tK l (j + 1))).length : Int) - 1 = (((rt (tK l (j + 1))).length - 1 : Nat) : Int) by omega, atI_fr (by omega)]
      have : cf (rt (tK l (j + 1))) ((rt (tK l (j + 1))).length - 1) = 1 := rt_lc _
      rw [this]
    have L := noroot δ I.sm (k := j + 1) (by omega) s0 s1 s2 s3 s4 s5 s7 s8 s9 s10 s11 s12 (some (pl (pscal (rt (wh l (j + 1))) p))) (some (.own ((ofn l (j + 1)).map .int))) s17
    have ee : eqD (.lst []) (.lst []) = some true := eqD_ints_nil []
    have hO : ¬ 1000000 < (ofn l j).length := by
      have := ofn_len l j
      omega
    have hl : ¬ 1000000 < l.length := by have := I.sm.len; omega
    have hlm : (l.map fr).length = l.length := List.length_map ..
    have it : itemsD δ .seq [.lst (l.map fr)] = some (l.map fr) := rfl
    refine ⟨some (pl (rt (tK l (j + 1)))), some (.int ((j + 1 : Nat) : Int)), s17, s18, fun rest => ?_⟩
    rw [e3] at L
    rw [e1, e3, List.singleton_append]
    have hO2 : ¬ 1000000 < ((ofn l j).map D.int).length := by rw [List.length_map]; exact hO
    generalize (ofn l j).map D.int = OO at *
    refine forGo_nx (σ1 := [s0, s1, s2, s3, s4, s5, some (.lst (l.map fr)), s7, s8, s9, s10, s11, s12, some (pl (pscal (rt (wh l j)) p)), some (.own OO), some (pl (rt (tK l (j + 1)))), some (.int ((j + 1 : Nat) : Int)), s17, s18]) (δ2 := δ) (by simp) ?_
    generalize pslope (rt (tK l (j + 1))) = R2 at *
    generalize rt (rpt (tK l (j + 1)) (j + 1)) = R3 at *
    generalize rt (tK l (j + 1)) = R1 at *
    generalize rt [] = R4 at *
    generalize pscal (rt (wh l (j + 1))) p = W1 at *
    generalize pscal (rt (wh l j)) p = W0 at *
    generalize ((j + 1 : Nat) : Int) = kk at *
    generalize l.map fr = LL at *
    simp at Dg
    simp [b3_law, Ra, Pr, Sl, Dv, Dg, la, fr1, L, ee, hO2, hl, hlm]
theorem loop9 {p : Rat} {l : List Rat} (I : Fp p l) (δ : Dl) (s0 s1 s2 s3 s4 s5 s7 s8 s9 s10 s11 s12 s15 s16 s17 s18 : Option D) : ∃ t15 t16 t17 t18, forGo (.tup [15, 16]) (evS (PF 20) fuel b3_law) (parts l) [s0, s1, s2, s3, s4, s5, some (.lst (l.map fr)), s7, s8, s9, s10, s11, s12, some (pl [p]), some (.own []), s15, s16, s17, s18] δ = .nx [s0, s1, s2, s3, s4, s5, some (.lst (l.map fr)), s7, s8, s9, s10, s11, s12, some (pl (pscal (rt l) p)), some (.own ((ofn l 3).map .int)), t15, t16, t17, t18] δ := by
  obtain ⟨a15, a16, a17, a18, e1⟩ := step9 I δ 0 (by omega) s0 s1 s2 s3 s4 s5 s7 s8 s9 s10 s11 s12 s15 s16 s17 s18
  obtain ⟨b15, b16, b17, b18, e2⟩ := step9 I δ 1 (by omega) s0 s1 s2 s3 s4 s5 s7 s8 s9 s10 s11 s12 a15 a16 a17 a18
  obtain ⟨c15, c16, c17, c18, e3⟩ := step9 I δ 2 (by omega) s0 s1 s2 s3 s4 s5 s7 s8 s9 s10 s11 s12 b15 b16 b17 b18
  refine ⟨c15, c16, c17, c18, ?_⟩
  have ep : parts l = PD l (0 + 1) ++ (PD l (1 + 1) ++ (PD l (2 + 1) ++ [])) := rfl
  have e0 : (pscal (rt (wh l 0)) p) = [p] := by
    show pscal [1] p = [p]
    exact evq_ext (pscal_tr _ _) (.inr I.p0) fun x => by rw [evq_pscal, ev_one, ev_one]; grind
  have e9 : pscal (rt (wh l (2 + 1))) p = pscal (rt l) p := by rw [rt_perm (wh_perm I.sm.len)]
  rw [e0] at e1
  have e1 := e1 (PD l (1 + 1) ++ (PD l (2 + 1) ++ []))
  rw [ep]
  refine e1.trans ?_
  rw [e2, e3, e9]
  rfl
theorem prodR_eq0 {f : Rat → Rat} : ∀ {l : List Rat}, prodR f l = 0 ↔ ∃ a, a ∈ l ∧ f a = 0
  | [] => ⟨fun h => absurd h (by show (1 : Rat) ≠ 0; decide), fun ⟨a, h, _⟩ => by simp at h⟩
  | b :: l => by
    show f b * prodR f l = 0 ↔ _
    rw [Rat.mul_eq_zero, prodR_eq0 (l := l)]
    constructor
    · rintro (h | ⟨a, h1, h2⟩)
      · exact ⟨b, List.mem_cons_self, h⟩
      · exact ⟨a, List.mem_cons_of_mem _ h1, h2⟩
    · rintro ⟨a, h1, h2⟩
      rcases List.mem_cons.mp h1 with z | z
      · exact .inl (z ▸ h2)
      · exact .inr ⟨a, z, h2⟩
def dueR (p q : Rat) (l m : List Rat) : Rat := p ^ m.length * q ^ l.length * prodR (fun a => prodR (fun b => a - b) m) l
theorem due_rs {p q : Rat} {l m : List Rat} (I : Fp p l) (J : Fp q m) : rs (pscal (rt l) p) (pscal (rt m) q) = dueR p q l m := by
  rw [← ofR_scal I.p0, ← ofR_scal J.p0]
  exact rs_roots I.p0 J.p0 l m
theorem due_0 {p q : Rat} {l m : List Rat} (I : Fp p l) (J : Fp q m) : dueR p q l m = 0 ↔ meet l m ≠ [] := by
  unfold dueR
  rw [Rat.mul_eq_zero, Rat.mul_eq_zero]
  have h1 := pow_neR I.p0 m.length
  have h2 := pow_neR J.p0 l.length
  constructor
  · rintro ((h | h) | h)
    · exact absurd h h1
    · exact absurd h h2
    · obtain ⟨a, ha, h⟩ := prodR_eq0.mp h
      obtain ⟨b, hb, h⟩ := prodR_eq0.mp h
      have e : b = a := by grind
      subst e
      intro z
      have := meet_count b l m
      rw [z, List.count_nil] at this
      have c1 := List.count_pos_iff.mpr ha
      have c2 := List.count_pos_iff.mpr hb
      omega
  · intro z
    obtain ⟨a, u, e⟩ := List.exists_cons_of_ne_nil z
    have h := meet_count a l m
    rw [e, List.count_cons_self] at h
    exact .inr (prodR_eq0.mpr ⟨a, List.count_pos_iff.mp (by omega), prodR_eq0.mpr ⟨a, List.count_pos_iff.mp (by omega), by grind⟩⟩)
abbrev cR : E := .or (.cmp .NotEq (.call f_resultant (.cons (.var 8) (.cons (.var 9) .nil))) (.var 2)) (.or (.cmp .NotEq (.cmp .Eq (.idx (.var 2) (.int 0)) (.int 0)) (.cmp .Gt (.call f_degree (.cons (.call f_divisor (.cons (.var 8) (.cons (.var 9) .nil))) .nil)) (.int 0))) (.cmp .NotEq (.call f_resultant (.cons (.var 8) (.cons (.tup .nil) .nil))) (.tup (.cons (.int 0) (.cons (.int 1) .nil)))))
abbrev no (e : E) : S := .ite e (.seq (.ret (.bl false)) .skip) .skip
theorem stR {p q : Rat} {l m : List Rat} (I : Fp p l) (J : Fp q m) (δ : Dl) (s0 s1 s3 s4 s5 s6 s7 s10 s11 s12 s13 s14 s15 s16 s17 s18 : Option D) : evS (PF 20) fuel (no cR) [s0, s1, some (fr (dueR p q l m)), s3, s4, s5, s6, s7, some (pl (pscal (rt l) p)), some (pl (pscal (rt m) q)), s10, s11, s12, s13, s14, s15, s16, s17, s18] δ = .nx [s0, s1, some (fr (dueR p q l m)), s3, s4, s5, s6, s7, some (pl (pscal (rt l) p)), some (pl (pscal (rt m) q)), s10, s11, s12, s13, s14, s15, s16, s17, s18] δ := by
  have l1 := I.len
  have l2 := J.len
  have l3 := I.sm.len
  have l4 := J.sm.len
  have R := C_rsA 6 20 (b := 4000) (by omega) (pscal_tr (rt l) p) (pscal_tr (rt m) q) I.ne J.ne (by omega) (by omega) I.hb J.hb (by omega) (by omega) (by omega)
    (fun h => okR4 ⟨_, by omega⟩ ⟨_, by omega⟩ (by show 1 ≤ (pscal (rt m) q).length; omega) h) (fun h => okR4 ⟨_, by omega⟩ ⟨_, by omega⟩ (by show 1 ≤ (pscal (rt l) p).length; omega) h) δ
  rw [due_rs I J] at R
  have D := C_divis 20 (by omega) δ 6 26 26 (p := pscal (rt l) p) (q := pscal (rt m) q) (by omega) (by omega) (pscal_tr _ _) (pscal_tr _ _) (by omega) (by omega) (I.hb.mono (by omega)) (J.hb.mono (by omega)) (by omega) (by omega) I.ne (okd4 ⟨_, by omega⟩ ⟨_, by omega⟩)
  rw [gcd_fg I.p0 J.p0 (by omega)] at D
  have Dg := C_degree 20 (by omega) δ (rt (meet l m))
  rw [rt_len] at Dg
  have R0 := C_rs0 20 (by omega) δ (pscal (rt l) p)
  rw [← plNil] at R0
  have d0 := due_0 I J
  have dn : (dueR p q l m).num = 0 ↔ dueR p q l m = 0 := num0
  generalize dueR p q l m = due at *
  by_cases z : meet l m = []
  · have n0 : ¬ due.num = 0 := fun y => (d0.mp (dn.mp y)) z
    rw [z] at Dg D
    generalize rt [] = R4 at *
    generalize pscal (rt l) p = F at *
    generalize pscal (rt m) q = G at *
    simp at Dg
    simp [R, D, Dg, R0, n0, fr0]
  · have n0 : due.num = 0 := dn.mpr (d0.mpr z)
    have lz := List.length_pos_iff.mpr z
    have hd : (0 : Int) < (((meet l m).length + 1 : Nat) : Int) - 1 := by omega
    generalize (((meet l m).length + 1 : Nat) : Int) - 1 = dd1 at *
    generalize rt (meet l m) = R4 at *
    generalize pscal (rt l) p = F at *
    generalize pscal (rt m) q = G at *
    simp [R, D, Dg, R0, n0, hd, fr0]
end Mini
namespace Mini
open PySem L2
theorem tK_filter (l : List Rat) {k : Nat} (hk : 1 ≤ k) : l.filter (fun a => decide (l.count a = k)) = [] ↔ tK l k = [] := by
  constructor
  · intro h
    rcases Classical.em (tK l k = []) with z | z
    · exact z
    · obtain ⟨a, u, e⟩ := List.exists_cons_of_ne_nil z
      have ha : a ∈ tK l k := by rw [e]; exact List.mem_cons_self
      have hc := (tK_mem l hk a).mp ha
      have : a ∈ l.filter (fun a => decide (l.count a = k)) := List.mem_filter.mpr ⟨List.count_pos_iff.mp (by omega), by simpa using hc⟩
      rw [h] at this
      simp at this
  · intro h
    rw [List.filter_eq_nil_iff]
    intro a ha hc
    have : a ∈ tK l k := (tK_mem l hk a).mpr (by simpa using hc)
    rw [h] at this
    simp at this
theorem kAt3 (δ : Dl) {l : List Rat} (hl : l.length ≤ 3) {k : Nat} (hk : 1 ≤ k) (s0 s1 s2 s3 s4 s5 s7 s8 s9 s10 s11 s12 s13 s14 s15 s16 s18 : Option D) : (evA' (PF 20) c3_law).t [s0, s1, s2, s3, s4, s5, some (.lst (l.map fr)), s7, s8, s9, s10, s11, s12, s13, s14, s15, s16, some (.int (k : Nat)), s18] δ = .ok (decide (tK l k ≠ [])) δ := by
  have F := lcGo_map (g := .name 18) (c := (evA' (PF 20) c2_law).t) (e := (evA' (PF 20) e5_law).v) (σ := [s0, s1, s2, s3, s4, s5, some (.lst (l.map fr)), s7, s8, s9, s10, s11, s12, s13, s14, s15, s16, some (.int (k : Nat)), none]) (δ := δ) fr fr (fun a => decide (l.count a = k)) l fun a ha => by
    have C := cnt_fr l a
    have M := mlst_lst (l.map fr)
    refine ⟨[s0, s1, s2, s3, s4, s5, some (.lst (l.map fr)), s7, s8, s9, s10, s11, s12, s13, s14, s15, s16, some (.int (k : Nat)), some (fr a)], by simp, ?_, fun z => ⟨by simp [e5_law], rfl⟩⟩
    have hi : decide (((l.count a : Nat) : Int) = ((k : Nat) : Int)) = decide (l.count a = k) := by
      by_cases z : l.count a = k
      · rw [decide_eq_true z, decide_eq_true (by omega)]
      · rw [decide_eq_false z, decide_eq_false (by omega)]
    rw [← hi]
    generalize ((l.count a : Nat) : Int) = w at *
    generalize l.map fr = L at *
    simp [c2_law, C, M]
  have hl2 : ¬ 1000000 < l.length := by omega
  have hlm : (l.map fr).length = l.length := List.length_map ..
  have it : itemsD δ .seq [.lst (l.map fr)] = some (l.map fr) := rfl
  have eq := eqD_lfr (l.filter fun a => decide (l.count a = k)) []
  rw [List.map_nil] at eq
  have e2 : decide (tK l k ≠ []) = !decide (l.filter (fun a => decide (l.count a = k)) = []) := by
    by_cases z : tK l k = []
    · rw [decide_eq_true ((tK_filter l hk).mpr z), decide_eq_false (fun y => y z)]; rfl
    · rw [decide_eq_false (fun y => z ((tK_filter l hk).mp y)), decide_eq_true z]; rfl
  rw [e2]
  generalize (l.filter fun a => decide (l.count a = k)) = X at *
  generalize l.map fr = L at *
  simp [c3_law, hlm, hl2, F, eq]
theorem ofn4 {l : List Rat} (hl : l.length ≤ 3) : tK l 4 = [] := by
  rcases Classical.em (tK l 4 = []) with z | z
  · exact z
  · obtain ⟨a, u, e⟩ := List.exists_cons_of_ne_nil z
    have ha : a ∈ tK l 4 := by rw [e]; exact List.mem_cons_self
    have hc := (tK_mem l (by omega) a).mp ha
    have := List.count_le_length (a := a) (l := l)
    omega
theorem lcK (δ : Dl) {l : List Rat} (hl : l.length ≤ 3) (s0 s1 s2 s3 s4 s5 s7 s8 s9 s10 s11 s12 s13 s14 s15 s16 s18 : Option D) : lcGo (.name 17) (evA' (PF 20) c3_law).t (evA' (PF 20) e6_law).v [s0, s1, s2, s3, s4, s5, some (.lst (l.map fr)), s7, s8, s9, s10, s11, s12, s13, s14, s15, s16, none, s18] [.int 1, .int 2, .int 3, .int 4] δ = .ok ((ofn l 3).map .int) δ := by
  have F := lcGo_map (g := .name 17) (c := (evA' (PF 20) c3_law).t) (e := (evA' (PF 20) e6_law).v) (σ := [s0, s1, s2, s3, s4, s5, some (.lst (l.map fr)), s7, s8, s9, s10, s11, s12, s13, s14, s15, s16, none, s18]) (δ := δ) (fun k : Nat => D.int (k : Nat)) (fun k : Nat => D.int (k : Nat)) (fun k => decide (tK l k ≠ [])) [1, 2, 3, 4] fun k hk => by
    refine ⟨[s0, s1, s2, s3, s4, s5, some (.lst (l.map fr)), s7, s8, s9, s10, s11, s12, s13, s14, s15, s16, some (.int (k : Nat)), s18], by simp, kAt3 δ hl (by simp at hk; omega) s0 s1 s2 s3 s4 s5 s7 s8 s9 s10 s11 s12 s13 s14 s15 s16 s18, fun z => ⟨by simp [e6_law], rfl⟩⟩
  have F : lcGo (.name 17) (evA' (PF 20) c3_law).t (evA' (PF 20) e6_law).v [s0, s1, s2, s3, s4, s5, some (.lst (l.map fr)), s7, s8, s9, s10, s11, s12, s13, s14, s15, s16, none, s18] [.int 1, .int 2, .int 3, .int 4] δ = .ok ((([1, 2, 3, 4] : List Nat).filter fun k => decide (tK l k ≠ [])).map fun k : Nat => D.int (k : Nat)) δ := F
  rw [F]
  congr 1
  have h4 := ofn4 hl
  by_cases h1 : tK l 1 = [] <;> by_cases h2 : tK l 2 = [] <;> by_cases h3 : tK l 3 = [] <;> simp [ofn, h1, h2, h3, h4]
theorem intsOf_9 : ∀ ns : List Int, intsOf (ns.map .int) = some ns
  | [] => rfl
  | n :: ns => by
    rw [List.map_cons]
    unfold intsOf
    rw [intsOf_9 ns]; rfl
theorem srt9 (δ : Dl) (l : List Rat) : bltD δ .sorted [.lst ((ofn l 3).map .int)] = some (.lst ((ofn l 3).map .int)) := by
  have e : sortI (ofn l 3) = ofn l 3 := by
    unfold sortI
    refine List.mergeSort_of_pairwise ?_
    by_cases h1 : tK l 1 = [] <;> by_cases h2 : tK l 2 = [] <;> by_cases h3 : tK l 3 = [] <;> simp [ofn, h1, h2, h3]
  show (intsOf ((ofn l 3).map .int)).map (fun ns => D.lst ((sortI ns).map .int)) = _
  rw [intsOf_9, Option.map_some, e]
theorem inX_nw : findH errX "NoWay" toldHs = some ("no way" : Str) := by decide +kernel
theorem told_nw {δ : Dl} : toldE errX toldHs (.ex "NoWay" [] δ) = .ok (.str "no way") δ := by
  unfold toldE
  simp only [inX_nw]
theorem eq_nw : eqD (.str "no way") (.str "no way") = some true := eqD_self (by rw [plain_str]; decide +kernel)
theorem eqD_ints (a : List Int) : eqD (.lst (a.map .int)) (.lst (a.map .int)) = some true := eqD_self (by
  rw [plain_lst]
  exact plainL_all fun t ht => by
    obtain ⟨i, _, rfl⟩ := List.mem_map.mp ht
    rw [plain_int])
theorem tail2 {p : Rat} {l : List Rat} (I : Fp p l) (δ : Dl) (s0 s1 s2 s3 s4 s5 s7 s9 s10 s11 s12 s13 s15 s16 s17 s18 : Option D) : evS (PF 20) fuel t2_law [s0, s1, s2, s3, s4, s5, some (.lst (l.map fr)), s7, some (pl (pscal (rt l) p)), s9, s10, s11, s12, s13, some (.lst ((ofn l 3).map .int)), s15, s16, s17, s18] δ = .nx [s0, s1, s2, s3, s4, s5, some (.lst (l.map fr)), s7, some (pl (pscal (rt l) p)), s9, s10, s11, s12, s13, some (.lst ((ofn l 3).map .int)), s15, s16, s17, s18] δ := by
  have len := I.len
  have hl := I.sm.len
  have K := lcK δ hl s0 s1 s2 s3 s4 s5 s7 (some (pl (pscal (rt l) p))) s9 s10 s11 s12 s13 (some (.lst ((ofn l 3).map .int))) s15 s16 s18
  have So := srt9 δ l
  have eo := eqD_ints (ofn l 3)
  have P := C_law_plain 20 (by omega) δ (pscal_tr (rt l) p) I.ne I.hb (by omega)
  have X := C_apartX 20 (by omega) δ
  generalize (ofn l 3).map D.int = O at *
  generalize l.map fr = L at *
  generalize pscal (rt l) p = F at *
  simp [t2_law, K, So, eo, P, X, told_nw, eq_nw]
theorem tail1 {p q : Rat} {l m : List Rat} (I : Fp p l) (J : Fp q m) (δ : Dl) (s0 s1 s3 s5 s7 s10 s11 s12 s13 s14 s15 s16 s17 s18 : Option D) : ∃ σ', evS (PF 20) fuel t1_law [s0, s1, some (fr (dueR p q l m)), s3, some (fr p), s5, some (.lst (l.map fr)), s7, some (pl (pscal (rt l) p)), some (pl (pscal (rt m) q)), s10, s11, s12, s13, s14, s15, s16, s17, s18] δ = .nx σ' δ ∧ σ'[0]? = some s0 ∧ σ'.length = 19 := by
  obtain ⟨t15, t16, t17, t18, L⟩ := loop9 I δ s0 s1 (some (fr (dueR p q l m))) s3 (some (fr p)) s5 s7 (some (pl (pscal (rt l) p))) (some (pl (pscal (rt m) q))) s10 (some (fr p)) (some (.tup (parts l))) s15 s16 s17 s18
  refine ⟨[s0, s1, some (fr (dueR p q l m)), s3, some (fr p), s5, some (.lst (l.map fr)), s7, some (pl (pscal (rt l) p)), some (pl (pscal (rt m) q)), s10, some (fr p), some (.tup (parts l)), some (pl (pscal (rt l) p)), some (.lst ((ofn l 3).map .int)), t15, t16, t17, t18], ?_, rfl, rfl⟩
  have R := stR I J δ s0 s1 s3 (some (fr p)) s5 (some (.lst (l.map fr))) s7 s10 s11 s12 s13 s14 s15 s16 s17 s18
  have Ap := C_apart 20 (by omega) δ I
  have T := tail2 I δ s0 s1 (some (fr (dueR p q l m))) s3 (some (fr p)) s5 s7 (some (pl (pscal (rt m) q))) s10 (some (fr p)) (some (.tup (parts l))) (some (pl (pscal (rt l) p))) (t15) (t16) (t17) (t18)
  have Tp : D.tup [fr p] = pl [p] := rfl
  have q1 : evS (PF 20) fuel (.asg (.tup [11, 12]) (.call f_apart (.cons (.var 8) .nil))) [s0, s1, some (fr (dueR p q l m)), s3, some (fr p), s5, some (.lst (l.map fr)), s7, some (pl (pscal (rt l) p)), some (pl (pscal (rt m) q)), s10, s11, s12, s13, s14, s15, s16, s17, s18] δ = .nx [s0, s1, some (fr (dueR p q l m)), s3, some (fr p), s5, some (.lst (l.map fr)), s7, some (pl (pscal (rt l) p)), some (pl (pscal (rt m) q)), s10, some (fr p), some (.tup (parts l)), s13, s14, s15, s16, s17, s18] δ := by
    generalize parts l = ps at *
    generalize pscal (rt l) p = F at *
    simp [Ap]
  have q2 : evS (PF 20) fuel (.par [(13, false), (14, true)] (.cons (.tup (.cons (.var 11) .nil)) (.cons (.lst .nil) .nil))) [s0, s1, some (fr (dueR p q l m)), s3, some (fr p), s5, some (.lst (l.map fr)), s7, some (pl (pscal (rt l) p)), some (pl (pscal (rt m) q)), s10, some (fr p), some (.tup (parts l)), s13, s14, s15, s16, s17, s18] δ = .nx [s0, s1, some (fr (dueR p q l m)), s3, some (fr p), s5, some (.lst (l.map fr)), s7, some (pl (pscal (rt l) p)), some (pl (pscal (rt m) q)), s10, some (fr p), some (.tup (parts l)), some (pl [p]), some (.own []), s15, s16, s17, s18] δ := by
    generalize parts l = ps at *
    simp [Tp]
  have q3 : evS (PF 20) fuel (.for (.tup [15, 16]) .seq (.cons (.var 12) .nil) b3_law) [s0, s1, some (fr (dueR p q l m)), s3, some (fr p), s5, some (.lst (l.map fr)), s7, some (pl (pscal (rt l) p)), some (pl (pscal (rt m) q)), s10, some (fr p), some (.tup (parts l)), some (pl [p]), some (.own []), s15, s16, s17, s18] δ = .nx [s0, s1, some (fr (dueR p q l m)), s3, some (fr p), s5, some (.lst (l.map fr)), s7, some (pl (pscal (rt l) p)), some (pl (pscal (rt m) q)), s10, some (fr p), some (.tup (parts l)), some (pl (pscal (rt l) p)), some (.own ((ofn l 3).map .int)), t15, t16, t17, t18] δ := by
    generalize parts l = ps at *
    simp [L]
  have q4 : evS (PF 20) fuel (no (.or (.cmp .NotEq (.var 13) (.var 8)) (.cmp .NotEq (.var 11) (.var 4)))) [s0, s1, some (fr (dueR p q l m)), s3, some (fr p), s5, some (.lst (l.map fr)), s7, some (pl (pscal (rt l) p)), some (pl (pscal (rt m) q)), s10, some (fr p), some (.tup (parts l)), some (pl (pscal (rt l) p)), some (.lst ((ofn l 3).map .int)), t15, t16, t17, t18] δ = .nx [s0, s1, some (fr (dueR p q l m)), s3, some (fr p), s5, some (.lst (l.map fr)), s7, some (pl (pscal (rt l) p)), some (pl (pscal (rt m) q)), s10, some (fr p), some (.tup (parts l)), some (pl (pscal (rt l) p)), some (.lst ((ofn l 3).map .int)), t15, t16, t17, t18] δ := by
    generalize parts l = ps at *
    generalize pscal (rt l) p = F at *
    simp
  unfold t1_law
  rw [ev_seq, R, next_nx, ev_seq, q1, next_nx, ev_seq, q2, next_nx, ev_seq, q3, next_nx]
  rw [show evS (PF 20) fuel (.frz 14 (.seq (no (.or (.cmp .NotEq (.var 13) (.var 8)) (.cmp .NotEq (.var 11) (.var 4)))) t2_law)) [s0, s1, some (fr (dueR p q l m)), s3, some (fr p), s5, some (.lst (l.map fr)), s7, some (pl (pscal (rt l) p)), some (pl (pscal (rt m) q)), s10, some (fr p), some (.tup (parts l)), some (pl (pscal (rt l) p)), some (.own ((ofn l 3).map .int)), t15, t16, t17, t18] δ = evS (PF 20) fuel (.seq (no (.or (.cmp .NotEq (.var 13) (.var 8)) (.cmp .NotEq (.var 11) (.var 4)))) t2_law) [s0, s1, some (fr (dueR p q l m)), s3, some (fr p), s5, some (.lst (l.map fr)), s7, some (pl (pscal (rt l) p)), some (pl (pscal (rt m) q)), s10, some (fr p), some (.tup (parts l)), some (pl (pscal (rt l) p)), some (.lst ((ofn l 3).map .int)), t15, t16, t17, t18] δ from rfl]
  rw [ev_seq, q4, next_nx, T]
theorem body (n c : Nat) (δ : Dl) (hd : Dcs n δ) (hc : c < n) (s0 s2 s3 s4 s5 s6 s7 s8 s9 s10 s11 s12 s13 s14 s15 s16 s17 s18 : Option D) :
    ∃ (σ' : Sig) (δ' : Dl), Dcs n δ' ∧ evS (PF 20) fuel b4_law [s0, some (.cell c), s2, s3, s4, s5, s6, s7, s8, s9, s10, s11, s12, s13, s14, s15, s16, s17, s18] δ = .nx σ' δ' ∧ σ'[0]? = some s0 ∧ σ'.length = 19 := by
  obtain ⟨p, q, δ1, d1, p0, q0, fp, fq, e1⟩ := dr1 hd hc s0 s2 s3 s4 s5 s6 s7 s8 s9 s10 s11 s12 s13 s14 s15 s16 s17 s18
  obtain ⟨l, m, δ2, d2, Sl, Sm, e2⟩ := dr2 d1 hc (p := p) (q := q) s0 s2 s3 s6 s7 s8 s9 s10 s11 s12 s13 s14 s15 s16 s17 s18
  have I : Fp p l := ⟨p0, fp, Sl⟩
  have J : Fp q m := ⟨q0, fq, Sm⟩
  have ll := Sl.len
  have lm := Sm.len
  have L1 := C_lor 20 (by omega) δ2 I
  have L2 := C_lor 20 (by omega) δ2 J
  have e3 : evS (PF 20) fuel (.par [(8, false), (9, false)] (.cons (.call f_law_of_roots (.cons (.var 4) (.cons (.var 6) .nil))) (.cons (.call f_law_of_roots (.cons (.var 5) (.cons (.var 7) .nil))) .nil))) [s0, some (.cell c), s2, s3, some (fr p), some (fr q), some (.lst (l.map fr)), some (.lst (m.map fr)), s8, s9, s10, s11, s12, s13, s14, s15, s16, s17, s18] δ2 = .nx [s0, some (.cell c), s2, s3, some (fr p), some (fr q), some (.lst (l.map fr)), some (.lst (m.map fr)), some (pl (pscal (rt l) p)), some (pl (pscal (rt m) q)), s10, s11, s12, s13, s14, s15, s16, s17, s18] δ2 := by
    generalize pscal (rt l) p = F at *
    generalize pscal (rt m) q = G at *
    generalize l.map fr = LL at *
    generalize m.map fr = MM at *
    simp [L1, L2]
  have fpm : Fb 10 (p ^ m.length) := (Fb.pow fp m.length).mono (by omega)
  have fql : Fb 10 (q ^ l.length) := (Fb.pow fq l.length).mono (by omega)
  have R1 := C_lraise 20 (by omega) δ2 (x := p) m.length (by omega) (fun i hi => (Fb.pow fp i).mono (by omega)) (fp.mono (by omega))
  have R2 := C_lraise 20 (by omega) δ2 (x := q) l.length (by omega) (fun i hi => (Fb.pow fq i).mono (by omega)) (fq.mono (by omega))
  have M := C_lmul 20 (by omega) δ2 (a := p ^ m.length) (b := q ^ l.length) (fpm.mono (by omega)) (fql.mono (by omega))
  have e4 : evS (PF 20) fuel (.asg (.name 2) (.call f_law_mul (.cons (.call f_law_raise (.cons (.var 4) (.cons (.blt .len (.cons (.var 7) .nil)) .nil))) (.cons (.call f_law_raise (.cons (.var 5) (.cons (.blt .len (.cons (.var 6) .nil)) .nil))) .nil)))) [s0, some (.cell c), s2, s3, some (fr p), some (fr q), some (.lst (l.map fr)), some (.lst (m.map fr)), some (pl (pscal (rt l) p)), some (pl (pscal (rt m) q)), s10, s11, s12, s13, s14, s15, s16, s17, s18] δ2 = .nx [s0, some (.cell c), some (fr (p ^ m.length * q ^ l.length)), s3, some (fr p), some (fr q), some (.lst (l.map fr)), some (.lst (m.map fr)), some (pl (pscal (rt l) p)), some (pl (pscal (rt m) q)), s10, s11, s12, s13, s14, s15, s16, s17, s18] δ2 := by
    have h1 : (l.map fr).length = l.length := List.length_map ..
    have h2 : (m.map fr).length = m.length := List.length_map ..
    generalize pscal (rt l) p = F at *
    generalize pscal (rt m) q = G at *
    generalize p ^ m.length = P at *
    generalize q ^ l.length = Q at *
    generalize l.map fr = LL at *
    generalize m.map fr = MM at *
    simp [h1, h2, R1, R2, M]
  obtain ⟨t3, t10, e5⟩ := due_out (δ := δ2) Sm s0 (some (.cell c)) (some (fr p)) (some (fr q)) (some (.lst (l.map fr))) (some (pl (pscal (rt l) p))) (some (pl (pscal (rt m) q))) s11 s12 s13 s14 s15 s16 s17 s18 l (p ^ m.length * q ^ l.length) 20 s3 s10 Sl.fb (fpm.mul fql) (by omega)
  have e5 : evS (PF 20) fuel (.for (.name 3) .seq (.cons (.var 6) .nil) b2_law) [s0, some (.cell c), some (fr (p ^ m.length * q ^ l.length)), s3, some (fr p), some (fr q), some (.lst (l.map fr)), some (.lst (m.map fr)), some (pl (pscal (rt l) p)), some (pl (pscal (rt m) q)), s10, s11, s12, s13, s14, s15, s16, s17, s18] δ2 = .nx [s0, some (.cell c), some (fr (dueR p q l m)), t3, some (fr p), some (fr q), some (.lst (l.map fr)), some (.lst (m.map fr)), some (pl (pscal (rt l) p)), some (pl (pscal (rt m) q)), t10, s11, s12, s13, s14, s15, s16, s17, s18] δ2 := by
    have it : itemsD δ2 .seq [.lst (l.map fr)] = some (l.map fr) := rfl
    have e5' := e5
    rw [show p ^ m.length * q ^ l.length * prodR (fun a => prodR (fun b => a - b) m) l = dueR p q l m from rfl] at e5'
    generalize dueR p q l m = due at *
    generalize p ^ m.length * q ^ l.length = x0 at *
    generalize l.map fr = LL at *
    generalize m.map fr = MM at *
    simp [e5']
  obtain ⟨σ', e6, h0, hl⟩ := tail1 I J δ2 s0 (some (.cell c)) (t3) (some (fr q)) (some (.lst (m.map fr))) (t10) s11 s12 s13 s14 s15 s16 s17 s18
  refine ⟨σ', δ2, d2, ?_, h0, hl⟩
  unfold b4_law
  rw [ev_seq, e1, next_nx, ev_seq, e2, next_nx, ev_seq, e3, next_nx, ev_seq, e4, next_nx, ev_seq, e5, next_nx, e6]
theorem rounds (n : Nat) (s0 : Option D) : ∀ (l : List Nat) (δ : Dl) (σ : Sig), σ[0]? = some s0 → σ.length = 19 → Dcs n δ → (∀ c, c ∈ l → c < n) →
    ∃ (σ' : Sig) (δ' : Dl), forGo (.name 1) (evS (PF 20) fuel b4_law) (l.map .cell) σ δ = .nx σ' δ'
  | [], δ, σ, _, _, _, _ => ⟨_, _, rfl⟩
  | c :: l, δ, σ, h0, hl, hd, hlt => by
    obtain ⟨x0, x1, x2, x3, x4, x5, x6, x7, x8, x9, x10, x11, x12, x13, x14, x15, x16, x17, x18, rfl⟩ : ∃ x0 x1 x2 x3 x4 x5 x6 x7 x8 x9 x10 x11 x12 x13 x14 x15 x16 x17 x18, σ = [x0, x1, x2, x3, x4, x5, x6, x7, x8, x9, x10, x11, x12, x13, x14, x15, x16, x17, x18] := by
      rcases σ with _ | ⟨a, _ | ⟨b, _ | ⟨c, _ | ⟨d, _ | ⟨e, _ | ⟨f, _ | ⟨g, _ | ⟨h, _ | ⟨i, _ | ⟨j, _ | ⟨k, _ | ⟨l, _ | ⟨m, _ | ⟨n, _ | ⟨o, _ | ⟨p, _ | ⟨q, _ | ⟨r, _ | ⟨s, _ | ⟨_, _⟩⟩⟩⟩⟩⟩⟩⟩⟩⟩⟩⟩⟩⟩⟩⟩⟩⟩⟩⟩ <;> simp at hl
      exact ⟨_, _, _, _, _, _, _, _, _, _, _, _, _, _, _, _, _, _, _, rfl⟩
    obtain ⟨σ1, δ1, d1, E, h1, h2⟩ := body n c δ hd (hlt c List.mem_cons_self) x0 x2 x3 x4 x5 x6 x7 x8 x9 x10 x11 x12 x13 x14 x15 x16 x17 x18
    have hx : x0 = s0 := by simpa using h0
    rw [hx] at h1
    obtain ⟨σ2, δ2, ih⟩ := rounds n s0 l δ1 σ1 h1 h2 d1 fun x hx => hlt x (List.mem_cons_of_mem _ hx)
    exact ⟨σ2, δ2, by rw [List.map_cons, forGo_nx (σ1 := [x0, some (.cell c), x2, x3, x4, x5, x6, x7, x8, x9, x10, x11, x12, x13, x14, x15, x16, x17, x18]) (by simp) E, ih]⟩
theorem mathG (ns : List Int) (h : ns.length ≤ 63) : ∃ δ, runF (PF 20) fuel 1 d_law.N.length d_law.m [.frz (ns.map .int)] [] = .ok (.bl true) δ := by
  obtain ⟨n, δ, hd, e⟩ := C_rounds 18 ns h 3
  obtain ⟨σ, δ', r⟩ := rounds n (some (.frz (ns.map .int))) (List.range n) δ [some (.frz (ns.map .int)), none, none, none, none, none, none, none, none, none, none, none, none, none, none, none, none, none, none] rfl rfl hd fun c hc => List.mem_range.mp hc
  refine ⟨δ', ?_⟩
  have e' : callE (PF 20) f_law_rounds [.frz (ns.map .int), .int 3] [] = .ok (.lst ((List.range n).map .cell)) δ := e
  rw [runF_at (P := PF 20) (n := fuel) (k := 1) (w := d_law.N.length) (s := d_law.m) (ds := [.frz (ns.map .int)]) (δ := []) [some (.frz (ns.map .int)), none, none, none, none, none, none, none, none, none, none, none, none, none, none, none, none, none, none] rfl rfl]
  simp only [d_law, m_law]
  generalize (ns.map D.int) = fz at *
  simp [e', r]
end Mini
namespace Mini
open PySem PySem.Spec PyProof.Rows L2
def top (i : Nat) : Stmt := PySem.Challenge.pw_algebrahall_k09_resultants_and_doubled_r.main.body.getD i (.Pass ⟨0, 0, 0, 0⟩)
def txt (i : Nat) : Txt := ⟨defArgs (top i), defBody (top i), defScope (top i)⟩
def theJob : Job where
  b := { gn := fun g => (consts[g]?).map (·.1), blts := ["range", "len", "sorted", "abs", "int", "tuple", "enumerate", "isinstance", "list", "max"], told := "_law_told", hs := toldHs, gxs := [] }
  rs := ["NoWay"]
  X := errX
  gs := consts
  ds := defs
  ts := [txt 36, txt 39, txt 35, txt 44, txt 45, txt 41, txt 43, txt 40, txt 31, txt 20, txt 27, txt 32, txt 23, txt 24, txt 28, txt 42, txt 46, txt 34, txt 10, txt 13, txt 12, txt 25, txt 21, txt 26, txt 11, txt 18, txt 30, txt 29, txt 22, txt 19, txt 38, txt 9, txt 14, txt 7, txt 15]
  law := d_law
  tlaw := txt 47
  tt := txt 37
  ta := "what"
  n := fuel
  k := depth
theorem bd : ∀ p, p ∈ theJob.ds.zip theJob.ts → bindB p.2 p.1.ps := by
  intro p hp
  simp only [theJob, defs, List.zip_cons_cons, List.zip_nil_right, List.mem_cons, List.not_mem_nil, or_false] at hp
  rcases hp with rfl | rfl | rfl | rfl | rfl | rfl | rfl | rfl | rfl | rfl | rfl | rfl | rfl | rfl | rfl | rfl | rfl | rfl | rfl | rfl | rfl | rfl | rfl | rfl | rfl | rfl | rfl | rfl | rfl | rfl | rfl | rfl | rfl | rfl | rfl
  · exact fun _ _ _ _ _ _ _ us hl => match us, hl with | [_, _], _ => rfl
  · exact fun _ _ _ _ _ _ _ us hl => match us, hl with | [_, _], _ => rfl
  · exact fun _ _ _ _ _ _ _ us hl => match us, hl with | [_, _], _ => rfl
  · exact fun _ _ _ _ _ _ _ us hl => match us, hl with | [_], _ => rfl
  · exact fun _ _ _ _ _ _ _ us hl => match us, hl with | [_, _], _ => rfl
  · exact fun _ _ _ _ _ _ _ us hl => match us, hl with | [_, _], _ => rfl
  · exact fun _ _ _ _ _ _ _ us hl => match us, hl with | [_, _], _ => rfl
  · exact fun _ _ _ _ _ _ _ us hl => match us, hl with | [_, _], _ => rfl
  · exact fun _ _ _ _ _ _ _ us hl => match us, hl with | [_, _], _ => rfl
  · exact fun _ _ _ _ _ _ _ us hl => match us, hl with | [_], _ => rfl
  · exact fun _ _ _ _ _ _ _ us hl => match us, hl with | [_, _], _ => rfl
  · exact fun _ _ _ _ _ _ _ us hl => match us, hl with | [_], _ => rfl
  · exact fun _ _ _ _ _ _ _ us hl => match us, hl with | [_, _], _ => rfl
  · exact fun _ _ _ _ _ _ _ us hl => match us, hl with | [_, _], _ => rfl
  · exact fun _ _ _ _ _ _ _ us hl => match us, hl with | [_], _ => rfl
  · exact fun _ _ _ _ _ _ _ us hl => match us, hl with | [_], _ => rfl
  · exact fun _ _ _ _ _ _ _ us hl => match us, hl with | [_], _ => rfl
  · exact fun _ _ _ _ _ _ _ us hl => match us, hl with | [_], _ => rfl
  · exact fun _ _ _ _ _ _ _ us hl => match us, hl with | [_], _ => rfl
  · exact fun _ _ _ _ _ _ _ us hl => match us, hl with | [_, _], _ => rfl
  · exact fun _ _ _ _ _ _ _ us hl => match us, hl with | [_, _], _ => rfl
  · exact fun _ _ _ _ _ _ _ us hl => match us, hl with | [_, _], _ => rfl
  · exact fun _ _ _ _ _ _ _ us hl => match us, hl with | [_], _ => rfl
  · exact fun _ _ _ _ _ _ _ us hl => match us, hl with | [_], _ => rfl
  · exact fun _ _ _ _ _ _ _ us hl => match us, hl with | [_, _], _ => rfl
  · exact fun _ _ _ _ _ _ _ us hl => match us, hl with | [_], _ => rfl
  · exact fun _ _ _ _ _ _ _ us hl => match us, hl with | [_], _ => rfl
  · exact fun _ _ _ _ _ _ _ us hl => match us, hl with | [_], _ => rfl
  · exact fun _ _ _ _ _ _ _ us hl => match us, hl with | [_, _], _ => rfl
  · exact fun _ _ _ _ _ _ _ us hl => match us, hl with | [_], _ => rfl
  · exact fun _ _ _ _ _ _ _ us hl => match us, hl with | [_, _], _ => rfl
  · exact fun _ _ _ _ _ _ _ us hl => match us, hl with | [_, _], _ => rfl
  · exact fun _ _ _ _ _ _ _ us hl => match us, hl with | [_, _], _ => rfl
  · exact fun _ _ _ _ _ _ _ us hl => match us, hl with | [_, _], _ => rfl
  · exact fun _ _ _ _ _ _ _ us hl => match us, hl with | [_], _ => rfl
theorem okJob : theJob.Ok where
  len := rfl
  ds := by decide +kernel
  law := by decide +kernel
  ps := rfl
  sT := by decide +kernel
  hT := by decide +kernel
  hva := by decide +kernel
  hca := by decide +kernel
  hdt := by decide +kernel
  gn := rfl
  hsX := fun c s h => by
    have e : ∀ p ∈ toldHs, p.1 ∈ errX := by decide +kernel
    exact e (c, s) h
  rsX := by decide +kernel
  ng := by decide +kernel
  k := by decide
  bd := bd
  bt := fun _ _ _ _ _ _ _ us hl => match us, hl with | [_], _ => rfl
  bl := fun _ _ _ _ _ _ _ us hl => match us, hl with | [_], _ => rfl
abbrev Rw : PySem.W.OpenRow := PySem.W.OpenLaw.row PySem.Challenge.rw_algebrahall_k09_resultants_and_doubled_r
abbrev tfs : List He.Defn := (d_law.x, none) :: theJob.b.gxs.map fun x => (x, none)
abbrev hk : PySem.W.Hook := He.hookX 4 theJob.fa theJob.fn [] tfs theJob.ex
def ob (s : PySem.W.SharedT) : He.AlX := He.obsX 4 theJob.fa theJob.fn [] tfs theJob.ex (HandSHeadRun.getT s)
theorem ob_eq (s : PySem.W.SharedT) : ob s = hk.obs s.abs := He.obsX_eq (HandSHeadRun.getT_eq s)
abbrev loose : List Str := (["AlgebraFault", "BadNumber", "BadForm", "NoWay", "TooLarge", "shared", "made", "of", "plus", "minus", "times", "over", "sign", "ONE", "cut", "of_wholes", "degree", "lead", "scaled", "product", "raised", "parted", "monic", "divisor", "slope", "content", "plain", "resultant", "apart", "_law_dice"] : List Str) ++ (["_law_roll", "_law_rounds", "_law_told", "_law_gcd", "_law_made", "_law_add", "_law_mul", "_law_sum", "_law_raise", "_law_frac", "_law_of_roots", "_law_plain"] : List Str)
theorem run (w : World) : HandSHeadRun.RunEq Rw (PySem.W.view Rw.prog [47]) hk ob steps loose w := by
  intro os
  kernel_rfl
theorem math : ∀ ns : List Int, ns.length ≤ 63 → ∃ δ, theJob.run ns = .ok (.bl true) δ := fun ns h => mathG ns h
end Mini
open PySem PySem.W PySem.Calls PyProof.Rows
theorem PySem.Challenge.cw_algebrahall_k09_resultants_and_doubled_r_holds : PySem.Challenge.rw_algebrahall_k09_resultants_and_doubled_r.Holds := by
  w_on; o_law
  refine HandSHeadRun.head_any (r := Mini.Rw) (q := PySem.W.view Mini.Rw.prog [47]) (H := Mini.hk) (ob := Mini.ob) (M := Mini.steps) (loose := Mini.loose) (d := HandSHeadRun.topDef Mini.Rw.prog 47) (kwd := []) Mini.ob_eq
    (by kernel_rfl) (fun s => by kernel_rfl) Mini.run (by kernel_rfl) (by kernel_rfl) (by kernel_rfl) (by rfl) (by first | assumption | decide +kernel) (by decide +kernel) ⟨rfl, rfl, rfl, rfl, rfl, by decide +kernel⟩ ?hw ?hc
  case hw => w_witness2
  case hc =>
    refine LamX.walk_ofTsE (l := PySem.Challenge.rw_algebrahall_k09_resultants_and_doubled_r) (n := 63) (k := 2 * Mini.theJob.k + 3) (x := "script") (CX := fun w => L2.CX (PySem.Challenge.rw_algebrahall_k09_resultants_and_doubled_r).prog w) rfl (by decide) (by kernel_rfl) ⟨rfl, by decide, by decide⟩ ?F (fun _ _ _ _ _ h => by obtain ⟨_, _, _, _, _, _, _, _, _, _, _, _, z⟩ := h; exact z.elim)
    intro w mg fa h Y G hmg0
    obtain ⟨K, KX, c⟩ := Y
    have hmg : mg Mini.theJob.law.x = some (.ref fa) := by
      have e : (HandSHeadRun.topDef Mini.Rw.prog 47).name = Mini.theJob.law.x := by kernel_rfl
      rw [← e]
      exact hmg0
    exact ⟨K, KX, Mini.job_at Mini.okJob rfl Mini.math KX c G hmg⟩
