import PyProof.Rows.All
import Wide.All
import OpenK.AllK
import Wide.FinOn
import PyProof.DictMoreH
import KE.KDictKeyed
import HandS.Dict
import HandS.ForExc
import HandS.ExcInit
import HandS.ExcField
import KE.KSuper
import KE.KExcSuper
import HandS.Lambda
import HandS.TryMany
import HandS.ExcIs
import HandS.IsInst
import HandS.Walk
import HandS.Wide
import HandS.Flow
import HandS.TupAny
import HandS.Zip
import HandS.Rev
import HandS.Style
import HandS.Conv
import HandS.HeadHook4
import HandS.TupMul
import HandS.WideBits
import HandS.Deep
import HandS.Iter
import KE.GoesEnum
import HandS.SortInts
import KE.SortKeyHeap
import KE.SortData
import KE.DataMinMax
import HandS.List
import PyProof.MaxThree
import HandS.Comp
import HandS.GenList
import HandS.AnyAll
import PyProof.SumAny
import HandS.DictComp
import HandS.CallRecv
import HandS.Defaults
import HandS.EndTab
import HandS.HeadWalk
import HandS.Head2
import PySem.Challenge.RW_algebrahall_k45_refusals_apart
set_option Elab.async false
set_option linter.all false
set_option maxRecDepth 100000
set_option maxHeartbeats 4000000
set_option autoImplicit false
namespace DM
open PySem PySem.Spec PyProof.Rows L2
abbrev Ens := List (List Int × Addr × Value)
def hI (ks : List Int) : Int := reduceHash (Builtin.Tuple.tupleHashOf (ks.map hashInt))
def enI (x : List Int × Addr × Value) : DictEntry := ⟨hI x.1, .ref x.2.1, x.2.2⟩
def rawI (h : Heap) (d : Addr) (xs : Ens) : Prop := ∃ o es ep, h.get? d = some o ∧ o.ExactDict ∧ o.data = .dict es ep ∧ es.toList = xs.map enI ∧ (xs.map (·.1)).Nodup
def phI (d : Addr) (xs : Ens) (h : Heap) : Prop := xs.length ≤ sizeLine ∧ (d == sysModules) = false ∧ rawI h d xs
def dO (d : Addr) (xs : Ens) : HO := .ext (phI d xs)
theorem dO_ok {P : Program} {w : World} {H : Hp} {h : Heap} {d : Addr} {xs : Ens} (r : phI d xs h) : ObjOk P w H h d (dO d xs) := by
  obtain ⟨z, hd, o, es, ep, h1, h2, h3, h4, h5⟩ := id r
  exact ⟨r, ⟨o, h1⟩, fun g1 g2 q k => by
    obtain ⟨z, hd, o, es, ep, h1, h2⟩ := q
    exact ⟨z, hd, o, es, ep, k o h1, h2⟩⟩
def KS (K : PySem.W.Frag) (H : Hp) (xs : Ens) : Prop := ∀ x ∈ xs, SqT K H x.2.1 (x.1.map V.int)
theorem items_int {P : Program} {w : World} : ∀ {ks : List Int} {us : List Value}, Vals (ks.map V.int) us → ItemsAre (intKind P w) ks us
  | [], _, r => by cases r; exact .nil
  | k :: ks, us, r => by
    rw [List.map_cons] at r
    cases r with
    | cons h t =>
      obtain ⟨tk, rfl⟩ := h
      exact .cons (show Value.isInt k (.int k tk) = true by simp [Value.isInt]) (items_int t)
section
variable {X : Cx} {pins : List (Addr × Obj)} {σ : L2.St} {H : Hp} {s : Shared} {a b : Addr} {ks : List Int} {xs : Ens} {A : Around} {E : Value → Shared → Prop}
theorem key_is (I : Inv X pins σ H s) (h : SqT X.K H b (ks.map V.int)) : (tupleKind (intKind X.prog X.w)).is s.heap ks b := by
  obtain ⟨its, r, ⟨o, e, hc, n, hd⟩, _⟩ := I.tuple h
  exact ⟨o, its.toArray, n, e, hc, hd, by simpa using items_int r⟩
theorem d_at (I : Inv X pins σ H s) (e : H a = some (dO a xs)) (k : KS X.K H xs) : xs.length ≤ sizeLine ∧ (a == sysModules) = false ∧ s.heap.DictOfH (tupleKind (intKind X.prog X.w)) a xs := by
  obtain ⟨⟨z, hd, o, es, ep, h1, h2, h3, h4, h5⟩, _⟩ := (show ObjOk X.prog X.w H s.heap a (dO a xs) from I.hok a _ e)
  exact ⟨z, hd, o, es, ep, h1, h2, h3, h4, fun x hx => key_is I (k x hx), h5⟩
theorem raw_of {P : Program} {w : World} {h : Heap} {a : Addr} {xs : Ens} (hz : xs.length ≤ sizeLine) (hd : (a == sysModules) = false) (x : h.DictOfH (tupleKind (intKind P w)) a xs) : phI a xs h := by
  obtain ⟨o, es, ep, h1, h2, h3, h4, _, h5⟩ := x
  exact ⟨hz, hd, o, es, ep, h1, h2, h3, h4, h5⟩
theorem storedH_len (xs : Ens) (k : List Int) (a : Addr) (v : Value) : (storedH xs k a v).length ≤ xs.length + 1 := by
  unfold storedH
  split
  · rw [List.length_map]; omega
  · rw [List.length_append]; simp
theorem isDict (I : Inv X pins σ H s) (e : H a = some (dO a xs)) : s.TypeIs (.ref a) "dict" ∧ ∀ b, Value.ref a = .ref b → ∃ ob, s.heap.get? b = some ob ∧ ob.dict = none := by
  obtain ⟨⟨z, hd, o, es, ep, h1, h2, h3, h4, h5⟩, _⟩ := (show ObjOk X.prog X.w H s.heap a (dO a xs) from I.hok a _ e)
  refine ⟨⟨o, h1, h2.1⟩, fun c q => ?_⟩
  cases q
  exact ⟨o, h1, h2.2.1⟩
theorem d_put {h' : Heap} {t' : Nat} {ys : Ens} (I : Inv X pins σ H s) (e : H a = some (dO a xs)) (hz : ys.length ≤ sizeLine) (hd : (a == sysModules) = false) (dd : h'.DictOfH (tupleKind (intKind X.prog X.w)) a ys) (hs : Heap.SameBut a s.heap h') :
    Inv X pins σ (upd H a (dO a ys)) { s with heap := h', toks := t' } := by
  have r := raw_of hz hd dd
  obtain ⟨_, _, o, _, _, h1, _⟩ := id r
  exact d_write I (by rw [e]; exact True.intro) hs ⟨o, h1⟩ (dO_ok r)
end
def tNewI : TE := fun _ H Q => ∀ p, H p = none → Q (.ref p) (upd H p (dO p []))
def DAt (K : PySem.W.Frag) (H : Hp) (x : V) (y : V) (a : Addr) (ks : List Int) (xs : Ens) : Prop := ∃ b, x = .ref a ∧ y = .ref b ∧ SqT K H b (ks.map V.int) ∧ H a = some (dO a xs) ∧ KS K H xs
def tInI (K : PySem.W.Frag) (n : Bool) (ty td : TE) : TE := fun σ H Q => ty σ H fun y H1 => td σ H1 fun x H2 => ∃ a ks xs, DAt K H2 x y a ks xs ∧ Q (.bl (if n then !(atKey xs ks).isSome else (atKey xs ks).isSome)) H2
def tGetI (K : PySem.W.Frag) (td ty : TE) : TE := fun σ H Q => td σ H fun x H1 => ty σ H1 fun y H2 => ∃ a ks xs p v, DAt K H2 x y a ks xs ∧ atKey xs ks = some p ∧ RelV v p.2 ∧ Q v H2
def tGetOI (K : PySem.W.Frag) (td ty tx : TE) : TE := fun σ H Q => td σ H fun x H1 => ∃ a xs0, x = .ref a ∧ H1 a = some (dO a xs0) ∧ ty σ H1 fun y H2 => tx σ H2 fun z H3 => ∃ ks xs, DAt K H3 x y a ks xs ∧
  (∀ p, atKey xs ks = some p → ∃ v, RelV v p.2 ∧ Q v H3) ∧ (atKey xs ks = none → Q z H3)
def tSetdI (K : PySem.W.Frag) (td ty tx : TE) : TE := fun σ H Q => td σ H fun x H1 => ∃ a xs0, x = .ref a ∧ H1 a = some (dO a xs0) ∧ ty σ H1 fun y H2 => tx σ H2 fun z H3 => ∃ b ks xs, y = .ref b ∧ SqT K H3 b (ks.map V.int) ∧ H3 a = some (dO a xs) ∧ KS K H3 xs ∧ xs.length < sizeLine ∧
  (∀ p, atKey xs ks = some p → ∃ v, RelV v p.2 ∧ Q v H3) ∧ (atKey xs ks = none → ∀ r, RelV z r → Q z (upd H3 a (dO a (storedH xs ks b r))))
def sPutI (K : PySem.W.Frag) (td ty tv : TE) : TS := fun D σ H => tv σ H fun v H1 => td σ H1 fun x H2 => ty σ H2 fun y H3 => ∃ a b ks xs, x = .ref a ∧ y = .ref b ∧ SqT K H3 b (ks.map V.int) ∧ H3 a = some (dO a xs) ∧ KS K H3 xs ∧ xs.length < sizeLine ∧
  ∀ r, RelV v r → D.nx σ (upd H3 a (dO a (storedH xs ks b r)))
section
variable {X : Cx} {o i e f value : Expr} {pos pos' apos cpos : Pos} {td ty tx tv : TE}
theorem pe_newI : PE X (.Dict [] [] pos) tNewI := ⟨fun pins s σ H Q I h =>
  wpAny_Dict_empty ⟨.ref s.heap.objs.size, _, I.laid (a := s.heap.objs.size) (o := dO s.heap.objs.size []) (t' := s.toks) (fun _ _ q => Heap.get?_push_of_some _ q) (Nat.le_refl _)
    (dO_ok ⟨Nat.zero_le _, beq_eq_false_iff_ne.mpr (Ne.symm (Nat.ne_of_lt I.big)), _, #[], 0, Heap.get?_push_size _ rfl, ⟨rfl, rfl, rfl⟩, rfl, rfl, List.nodup_nil⟩), rfl, h _ (I.hok.fresh (Nat.le_refl _))⟩⟩
theorem pc_inI {n : Bool} (hu : X.A.units + 1 < cLine) (hi : PE X i ty) (ho : PE X o td) : PC X (if n then .NotIn else .In) i o (tInI X.K n ty td) := by
  refine ⟨fun pins s σ H Q I h => ?_⟩
  refine thn (hi.run pins s σ H _ I h) fun iv s1 ⟨y, H1, I1, ry, q1⟩ => thn (ho.run pins s1 σ H1 _ I1 q1) fun u s2 ⟨x, H2, I2, rx, a, ks, xs, ⟨b, ex, ey, kb, e, k⟩, q2⟩ => ?_
  subst ex ey
  obtain rfl : u = Value.ref a := rx
  obtain rfl : iv = Value.ref b := ry
  obtain ⟨z, hd, dd⟩ := d_at I2 e k
  cases n with
  | false => exact wpAny_in_heap (tupleKind_room_in1 hu) (key_is I2 kb) hd dd ⟨.bl _, H2, I2.tok _, rfl, q2⟩
  | true =>
    show wpAny _ _ (contains (.ref a) (.ref b) >>= fun c => pure (Value.bool (!c))) _ _ s2
    exact wpAny_bind (wpAny_contains_heap (tupleKind_room_in1 hu) (key_is I2 kb) hd dd (wpAny_pure ⟨.bl _, H2, I2.tok _, rfl, q2⟩))
theorem pe_getI (hu : X.A.units + 1 < cLine) (ho : PE X o td) (hi : PE X i ty) (hs : NoSl i) : PE X (.Subscript o i pos) (tGetI X.K td ty) := by
  refine ⟨fun pins s σ H Q I h => ?_⟩
  refine subD_of PySem.F.slot_dict_getitem.lookup hs (thn (ho.run pins s σ H _ I h) fun u s1 ⟨x, H1, I1, rx, q1⟩ => thn (hi.run pins s1 σ H1 _ I1 q1) fun iv s2 ⟨y, H2, I2, ry, a, ks, xs, p, v, ⟨b, ex, ey, kb, e, k⟩, hp, rv, q2⟩ => ?_)
  subst ex ey
  obtain rfl : u = Value.ref a := rx
  obtain rfl : iv = Value.ref b := ry
  obtain ⟨z, hd, dd⟩ := d_at I2 e k
  exact ⟨(isDict I2 e).1, wpAny_getItem_heap (tupleKind_room_in1 hu) (key_is I2 kb) dd hp ⟨v, H2, I2.tok _, rv, q2⟩⟩
theorem pe_getOI (hu : X.A.units + 1 < cLine) (ho : PE X o td) (he : PE X e ty) (hf : PE X f tx) (m : M2 X o "get" apos e f cpos) : PE X (.Call (.Attribute o "get" apos) [e, f] [] cpos) (tGetOI X.K td ty tx) := by
  refine ⟨fun pins s σ H Q I h => ?_⟩
  refine wpAny_Call_method m.base m.few m.line PySem.F.plainAttrs_dict PySem.F.slot_dict_get PySem.F.type_dict_get (thn (ho.run pins s σ H _ I h) fun u s1 ⟨x, H1, I1, rx, a, xs0, ex, e0, q1⟩ => ?_)
  subst ex
  obtain rfl : u = Value.ref a := rx
  obtain ⟨t1, t2⟩ := isDict I1 e0
  refine ⟨t1, t2, ?_⟩
  rw [m.trees]
  refine Calls.callWith_builtin rfl (Calls.evalArgs_plain (Calls.spliced_cons (thn (he.run pins s1 σ H1 _ I1 q1) fun iv s2 ⟨y, H2, I2, ry, q2⟩ =>
    Calls.spliced_cons (thn (hf.run pins s2 σ H2 _ I2 q2) fun fv s3 ⟨z, H3, I3, rz, ks, xs, ⟨b, ex, ey, kb, e, k⟩, h1, h2⟩ => Calls.spliced_nil ?_))))
  subst ey
  cases ex
  obtain rfl : iv = Value.ref b := ry
  obtain ⟨zz, hd, dd⟩ := d_at I3 e k
  refine call_meetsIn PySem.F.slot_dict_get dd.typeIs PySem.F.entry_dict_get (PySem.F.args_dict_get_3 _ _ _) (meetsH_dict_get_default (tupleKind (intKind X.prog X.w)) a b hd fv) ⟨tupleKind_room_in1 hu, ks, xs, key_is I3 kb, dd, ?_⟩
  cases hp : atKey xs ks with
  | none => exact ⟨z, H3, I3.tok _, rz, h2 hp⟩
  | some p =>
    obtain ⟨v, rv, q⟩ := h1 p hp
    exact ⟨v, H3, I3.tok _, rv, q⟩
theorem pe_setdI (hu : X.A.units + 1 < cLine) (ho : PE X o td) (he : PE X e ty) (hf : PE X f tx) (m : M2 X o "setdefault" apos e f cpos) : PE X (.Call (.Attribute o "setdefault" apos) [e, f] [] cpos) (tSetdI X.K td ty tx) := by
  refine ⟨fun pins s σ H Q I h => ?_⟩
  refine wpAny_Call_method m.base m.few m.line PySem.F.plainAttrs_dict PySem.F.slot_dict_setdefault PySem.F.type_dict_setdefault (thn (ho.run pins s σ H _ I h) fun u s1 ⟨x, H1, I1, rx, a, xs0, ex, e0, q1⟩ => ?_)
  subst ex
  obtain rfl : u = Value.ref a := rx
  obtain ⟨t1, t2⟩ := isDict I1 e0
  refine ⟨t1, t2, ?_⟩
  rw [m.trees]
  refine Calls.callWith_builtin rfl (Calls.evalArgs_plain (Calls.spliced_cons (thn (he.run pins s1 σ H1 _ I1 q1) fun iv s2 ⟨y, H2, I2, ry, q2⟩ =>
    Calls.spliced_cons (thn (hf.run pins s2 σ H2 _ I2 q2) fun fv s3 ⟨z, H3, I3, rz, b, ks, xs, ey, kb, e, k, hl, h1, h2⟩ => Calls.spliced_nil ?_))))
  subst ey
  obtain rfl : iv = Value.ref b := ry
  obtain ⟨zz, hd, dd⟩ := d_at I3 e k
  refine call_setdefault_heap (hsz := by omega) (tupleKind_room_in1 hu) (key_is I3 kb) hd dd (fun p hp => ?_) fun hn h' dd' hs => ?_
  · obtain ⟨v, rv, q⟩ := h1 p hp
    exact ⟨v, H3, I3.tok _, rv, q⟩
  · exact ⟨z, _, d_put I3 e (by have := storedH_len xs ks b fv; omega) hd dd' hs, rz, h2 hn fv rz⟩
theorem ps_putI (hu : X.A.units + 1 < cLine) (ho : PE X o td) (hi : PE X i ty) (hv : PE X value tv) (hs : swapsWith value (some (.Subscript o i pos')) pos.line X.env = pure false) :
    PS X (.Assign [.Subscript o i pos'] value pos) (sPutI X.K td ty tv) := by
  refine ⟨fun pins s σ H D I h => ?_⟩
  refine wpAny_Assign_Subscript (thn (hv.run pins s σ H _ I h) fun r s1 ⟨v, H1, I1, rv, q1⟩ => thn (ho.run pins s1 σ H1 _ I1 q1) fun u s2 ⟨x, H2, I2, rx, q2⟩ => thn (hi.run pins s2 σ H2 _ I2 q2) fun iv s3 ⟨y, H3, I3, ry, a, b, ks, xs, ex, ey, kb, e, k, hl, q3⟩ => ?_) hs
  subst ex ey
  obtain rfl : u = Value.ref a := rx
  obtain rfl : iv = Value.ref b := ry
  obtain ⟨zz, hd, dd⟩ := d_at I3 e k
  refine wpAny_setItem_heap (hsz := by omega) (tupleKind_room_in1 hu) (key_is I3 kb) dd fun h' dd' hs => ?_
  exact ⟨σ, _, d_put I3 e (by have := storedH_len xs ks b r; omega) hd dd' hs, q3 r rv⟩
end
end DM

namespace MiniP
open PySem PySem.W PySem.Calls PyProof.Rows
section
variable {prog : Program} {w : World} {A : Around} {s : Shared} {K : PySem.W.Frag} {g : Heap} {L a C fI cc cda : Addr} {mg mb m : Str → Option Value} {q : Str} {scope : Scope}
theorem sup {body : List Stmt} {p0 p1 : Pos} {attr : Str} {whole : Sem Value} {fd : FuncData} {ar : Arg} {vs : Array Value} {file : Str} {tf : Tok} {oc ccl cl : Value} {od cdd cld : Option Addr} {osl ccs csl : Array (Option Value)} {cdD : ClassData}
    {Q : Value → Shared → Prop} {E : Value → Shared → Prop} {ox : Obj} {od2 : Option Obj} {news : List (Addr × Obj)} (F : Fr g L s.heap m) (KI : K.In g) (N : News g L s.heap news) (glob : g.Ns mainGlobals mg) (blt : g.Ns builtinsNs mb) (bb : mb "super" = bootBuiltins "super") (noS : mg "super" = none)
    (lk : K.lookup fI = some ⟨oc, od, .func fd, osl⟩) (hp : (fd.params.posonlyargs ++ fd.params.args).head? = some ar) (hv : m ar.arg = some (.ref a)) (I : InstAt s.heap a ox C od2)
    (hcode : K.lookup cda = some ⟨ccl, cdd, .fields vs, ccs⟩) (hvs : vs[2]? = some (.str file tf)) (hfile : ((prog.main.file : Str) == file) = true)
    (hcell : K.lookup cc = some ⟨cl, cld, .cell (some (.ref C)), csl⟩) (hD : clsIn K C = some cdD) (hsub : mroIn K C (.ref C) = some true)
    (hat : (attr == ("__class__" : Str)) = false) (hks : scope.names.lookup ("super" : Str) = some .globalImplicit) (hkc : scope.names.lookup ("__class__" : Str) = some .free) (hka : scope.names.lookup ar.arg = some .local) (hk : scope.kind = .function)
    (htop : (prog.main.scope.names.lookup ("super" : Str)).isSome = false)
    (h : ∀ so h', Fr g L h' m → News g L h' ((so, ks_superObj C a C) :: news) → (∀ p ∈ news, p.1 < so) → (∀ b o, s.heap.get? b = some o → h'.get? b = some o) → Q (.ref so) { s with heap := h' }) :
    _root_.PySem.wpAt (model prog w) A (.func body (ksEnv q scope L fI (.ref cda) cc)) (attributeBase (.Call (.Name "super" p0) [] [] p1) attr (ksEnv q scope L fI (.ref cda) cc) whole) Q E s := by
  have KS : K.In s.heap := KI.keeps F.keep
  obtain ⟨hh, gg, d, t, os⟩ := s
  obtain ⟨oD, k1, k2⟩ : ∃ oD, hh.get? C = some oD ∧ oD.data = .cls cdD := by
    unfold clsIn at hD
    split at hD
    · rename_i z1 z2 z3 z4 z5
      cases hD
      exact ⟨_, KS _ _ z5, rfl⟩
    · cases hD
  refine ks_wpAt_super_base (env := ksEnv q scope L fI (.ref cda) cc) hks hkc hat rfl (KS _ _ lk) rfl hp rfl (KS _ _ hcode) rfl hvs hfile htop ?_
  have bsup : bootBuiltins "super" = some (.type "super") := by first | rfl | kernel_rfl | decide +kernel
  refine ks_loadName_global hk hks (loadGlobal_builtin (env := ksEnv q scope L fI (.ref cda) cc) (glob.keeps F.keep) noS (blt.keeps F.keep) (bb.trans bsup) ⟨rfl, ?_⟩)
  refine wpAny_loadName_free hk hkc rfl ⟨_, KS _ _ hcell, rfl⟩ ?_
  refine wpAny_loadName_local hk hka F.ns hv (ks_wpAny_isType_cls k1 k2 ⟨rfl, ?_⟩)
  refine ks_wpAny_call_super k1 k2 I.at_ I.cls (fun c e => ?_) (looks_mroIn KS hsub) (fun h' e k => ?_)
  · have hn := I.no
    unfold notCls at hn
    rw [e] at hn
    exact Bool.noConfusion hn
  · obtain ⟨F2, N2, l2⟩ := ks_newsPush (s := ⟨hh, gg, d, t, os⟩) F N rfl e k
    exact h _ _ F2 N2 l2 k
structure PayK (K : PySem.W.Frag) (prog : Program) (C fI : Addr) (f : Str) : Prop where
  ex : ∃ (x0 x1 : Str) (qual : Str) (params : Arguments) (scope : Scope) (dV kV doc pm ct oc : Value) (ann od : Option Addr) (osl : Array (Option Value)) (cc cda : Addr) (q1 q2 q3 q4 q5 q6 q7 q8 q9 q10 q11 : Pos) (j : Nat) (msg : Str) (ar : Arg)
      (ccl cl : Value) (cdd cld : Option Addr) (ccs csl : Array (Option Value)) (vs : Array Value) (file : Str) (tf : Tok),
    K.lookup fI = some ⟨oc, od, .func (fnX "__init__" qual params
      [.Expr (.Call (.Attribute (.Call (.Name "super" q1) [] [] q2) "__init__" q3) [.Constant (.str msg) j q4] [] q5) q6, .Assign [.Attribute (.Name x0 q7) f q8] (.Name x1 q9) q10] scope [("__class__", cc)] dV kV doc pm ann (.ref cda) ct), osl⟩ ∧
    codeIn K (.ref cda) qual = true ∧ (params.posonlyargs ++ params.args).head? = some ar ∧ ar.arg = x0 ∧
    K.lookup cda = some ⟨ccl, cdd, .fields vs, ccs⟩ ∧ vs[2]? = some (.str file tf) ∧ ((prog.main.file : Str) == file) = true ∧ K.lookup cc = some ⟨cl, cld, .cell (some (.ref C)), csl⟩ ∧
    scope.names.lookup ("super" : Str) = some .globalImplicit ∧ scope.names.lookup ("__class__" : Str) = some .free ∧ scope.names.lookup x0 = some .local ∧ scope.names.lookup x1 = some .local ∧ scope.kind = .function ∧ scope.isCoroutine = false ∧ scope.isGenerator = false ∧
    (∀ y ∈ scope.names, y.2 ≠ .cell) ∧ x0 ≠ x1 ∧ (q3.endLine == q5.line) = true ∧ (x0 == ("__debug__" : Str)) = false ∧ (x1 == ("__debug__" : Str)) = false ∧
    ∀ us : List Value, us.length = 2 → bindArgs (fnX "__init__" qual params
      [.Expr (.Call (.Attribute (.Call (.Name "super" q1) [] [] q2) "__init__" q3) [.Constant (.str msg) j q4] [] q5) q6, .Assign [.Attribute (.Name x0 q7) f q8] (.Name x1 q9) q10] scope [("__class__", cc)] dV kV doc pm ann (.ref cda) ct) ⟨us, []⟩ = pure ([x0, x1].zip us)
  top : (prog.main.scope.names.lookup ("super" : Str)).isSome = false
  cls : ∃ cd, clsIn K C = some cd ∧ PySem.HandSPX.refsVE cd.mro = true ∧ cd.hasDict = true
  mro : mroIn K C (.ref C) = some true
  ini : ks_superIn K C C "__init__" = some (some (.builtin "ValueError.__init__"))
  sub : subIn K (.ref C) (.type "ValueError") = some true
  thi : nsIn K cStatics "thirdparty.any" = some none
  exi : excInitIn K C [.type "ValueError", .type "Exception", .type "BaseException", .type "object"] "ValueError.__new__" = true
  sa : findIn K (.ref C) "__setattr__" = some (some (.builtin "object.__setattr__"))
  no : findIn K (.ref C) f = some none
  gs : nsIn K mainGlobals "super" = some none
theorem run {f : Str} {t0 : Addr} {u : Value} (P : PayK K prog C fI f) (KI : K.In g) (glob : g.Ns mainGlobals mg) (blt : ∃ mb, g.Ns builtinsNs mb ∧ ∀ x : Str, x ≠ "__name__" → mb x = bootBuiltins x) (lim : g.NoLimit)
    (gk : ∀ b o, g.get? b = some o → s.heap.get? b = some o) (ga : g.get? a = none) (ea : s.heap.get? a = some (PySem.HandSPX.excO C t0)) (room : A.depth < recursionLimit) :
    codeAny (model prog w) A (.call (.ref fI) ⟨[.ref a, u], []⟩) (fun r s' => r = .ok (.ret .none) ∧ s'.os = s.os ∧ s'.gens = s.gens ∧ (∀ b o, b ≠ a → s.heap.get? b = some o → s'.heap.get? b = some o) ∧
      ∃ t1 dx, s.heap.objs.size ≤ dx ∧ dx ≠ a ∧ s'.heap.get? a = some ({ cls := .ref C, dict := some dx, data := .fields #[.ref t1, .none, .none, .none, .bool false, .none] } : Obj) ∧ s'.heap.Ns1 dx (fun y => if y = f then some u else none)) s := by
  obtain ⟨x0, x1, qual, params, scope, dV, kV, doc, pm, ct, oc, ann, od, osl, cc, cda, q1, q2, q3, q4, q5, q6, q7, q8, q9, q10, q11, j, msg, ar, ccl, cl, cdd, cld, ccs, csl, vs, file, tf, lk, hcd, hpar, har, hcode, hvs, hfile, hcell, n1, n2, n3, n4, hk, hco, hge, hnc, hne, hln, hd0, hd1, hbind⟩ := P.ex
  obtain ⟨cdC, hC, hVE, hdict⟩ := P.cls
  obtain ⟨mb, hb, hbb⟩ := blt
  have KS : K.In s.heap := KI.keeps gk
  -- the heap at the entry without the exception
  have G0k : ∀ b o, g.get? b = some o → (hideAll s.heap [a]).get? b = some o := fun b o e => hideAll_get _ (gk b o e) fun z => by
    rw [List.mem_singleton.mp z, ga] at e
    cases e
  have KG : K.In (hideAll s.heap [a]) := KI.keeps G0k
  have Gn : (hideAll s.heap [a]).get? a = none := hideAll_none _ (by simp)
  refine ks_codeAny_call_defAt (binds := [x0, x1].zip [.ref a, u]) room (KS _ _ lk) rfl (lim.keeps gk) (codeRec_of KS hcd) rfl (.of_eq (hbind [.ref a, u] rfl)) hnc (fun y hy => ?_) (fun h1 hns hk1 => ?_) hco hge hk
  · simp only [List.zip_cons_cons, List.zip_nil_right, List.mem_cons, List.not_mem_nil, or_false] at hy
    rcases hy with rfl | rfl
    · exact n3
    · exact n4
  have bm0 : ([x0, x1].zip [Value.ref a, u]).reverse.lookup x0 = some (.ref a) := by
    show List.lookup x0 [(x1, u), (x0, Value.ref a)] = _
    rw [List.lookup_cons, beq_false_of_ne hne, List.lookup_cons, beq_self_eq_true]
  have bm1 : ([x0, x1].zip [Value.ref a, u]).reverse.lookup x1 = some u := by
    show List.lookup x1 [(x1, u), (x0, Value.ref a)] = _
    rw [List.lookup_cons, beq_self_eq_true]
  have aL : a ≠ s.heap.objs.size := Nat.ne_of_lt (Heap.lt_size ea)
  have Fr1 : Fr (hideAll s.heap [a]) s.heap.objs.size h1 (fun y => ([x0, x1].zip [Value.ref a, u]).reverse.lookup y) := ⟨hns, fun b o e => hk1 b o (of_hideAll _ e), Nat.le_of_eq (hideAll_size _ _)⟩
  have Nw1 : News (hideAll s.heap [a]) s.heap.objs.size h1 [(a, excObj C t0 none .none)] := fun p hp => by
    rw [List.mem_singleton.mp hp]
    exact ⟨hk1 _ _ ea, aL, Gn⟩
  have kept : ∀ {h' : Heap}, Fr (hideAll s.heap [a]) s.heap.objs.size h' (fun y => ([x0, x1].zip [Value.ref a, u]).reverse.lookup y) → ∀ b o, b ≠ a → s.heap.get? b = some o → h'.get? b = some o := fun {h'} F b o hb e =>
    F.keep b o (hideAll_get _ e fun z => hb (List.mem_singleton.mp z))
  have hform : ∀ {env : Env} {e : Expr}, methodCallPos true e env q3 q5 = pure q5 := fun {env e} => by
    unfold methodCallPos
    rw [hln]
    rfl
  refine ks_wpAt_execs_cons (ks_wpAt_Expr_any (ks_wpAt_MethodCall (pl := (do return (← importBound (.Call (.Name "super" q1) [] [] q2) (callEnv (fnX "__init__" qual params
      [.Expr (.Call (.Attribute (.Call (.Name "super" q1) [] [] q2) "__init__" q3) [.Constant (.str msg) j q4] [] q5) q6, .Assign [.Attribute (.Name x0 q7) f q8] (.Name x1 q9) q10] scope [("__class__", cc)] dV kV doc pm ann (.ref cda) ct) s.heap.objs.size fI)).getD true)) ?_ ?he) ?hi)
  case hi =>
    show interactive (ksEnv qual scope s.heap.objs.size fI (.ref cda) cc) = false
    simp [interactive, hk]
  case he =>
    rw [arm_eval_Call]
    show (do
      let ov ← attributeBase _ _ _ _
      standAt q3.atName
      let (f, first) ← holding [ov] (getMethod ov "__init__" _)
      let callPos ← methodCallPos true _ _ q3 q5
      callWith callPos f first _ _) = _
    rw [hform]
    rfl
  show _root_.PySem.wpAt _ _ _ (attributeBase _ _ (ksEnv qual scope s.heap.objs.size fI (.ref cda) cc) _) _ _ _
  have Ia : InstAt h1 a (PySem.HandSPX.excO C t0) C none := ⟨hk1 _ _ ea, rfl, rfl, trivial⟩
  refine sup (news := [(a, excObj C t0 none .none)]) (ar := ar) Fr1 KG Nw1 (glob.keeps G0k) (hb.keeps G0k) (hbb _ (by decide)) (mg_none_of KI glob P.gs) lk hpar (by rw [har]; exact bm0) Ia hcode hvs hfile hcell hC P.mro (by decide) n1 n2 (by rw [har]; exact n3) hk P.top
    fun so h2 F2 N2 l2 k2 => ?_
  refine kxs_method (K := K) kxs_ValueError F2 KG N2 (List.mem_cons_self ..) (ox := PySem.HandSPX.excO C t0) (odx := none) ⟨k2 _ _ (hk1 _ _ ea), rfl, rfl, trivial⟩ P.thi P.ini P.sub (by decide) fun q0 h3 F3 N3 l3 => ?_
  refine kxs_callWith1 (i := "ValueError.__init__") (x := a) N3 (List.mem_cons_self ..) ?_
  show wpAny _ _ (spliced [(false, eval (.Constant (.str msg) j q4) (ksEnv qual scope s.heap.objs.size fI (.ref cda) cc))]) _ _ _
  refine spliced_cons (Constant_str (spliced_nil ⟨(N3.get (List.mem_cons_self ..) : _), ?_⟩))
  have a1 : a < so := l2 (a, excObj C t0 none .none) (by simp)
  have a2 : a < q0 := l3 (a, excObj C t0 none .none) (by simp)
  refine kxs_call (K := K) (s := ⟨h3, _, _, _, _⟩) F3 KG N3 F.excBase_ValueError P.exi (List.mem_cons_self ..) (UpdF.tail (Nat.ne_of_gt a2) (UpdF.tail (Nat.ne_of_gt a1) (UpdF.head (by simp)))) (by rw [sizeLine_eq]; simp) fun t2 h4 F4 N4 _ => ?_
  show _root_.PySem.wpAt _ _ _ (execs [.Assign [.Attribute (.Name x0 q7) f q8] (.Name x1 q9) q10] (ksEnv qual scope s.heap.objs.size fI (.ref cda) cc)) _ _ _
  have K4 : K.In h4 := KG.keeps F4.keep
  have e4 : h4.get? a = some (excObj C t2 none .none) := N4.get (List.mem_cons_of_mem _ (List.mem_cons_of_mem _ (List.mem_cons_of_mem _ (List.mem_cons_self ..))))
  refine wpAt_of_wpAny (wpAny_execs_cons (plainObj_wpAny_Assign_Attribute (wpAny_Name (wpAny_loadName_local hk n4 F4.ns bm1 ?_) hd1) ?hsw))
  case hsw => rfl
  refine wpAny_Name (wpAny_loadName_local hk n3 F4.ns bm0 ?_) hd0
  refine PySem.W.set_plain K4 (ox := excObj C t2 none .none) (od := none) ⟨e4, rfl, rfl, trivial⟩ P.sa ?_
  refine PySem.HandSPX.exc_osa K4 e4 hC hVE hdict P.no fun h' tk' dx k dn dne hx hn => ?_
  refine wpAny_execs_nil ⟨rfl, rfl, rfl, fun b o hb e => k b o hb (kept F4 b o hb e), t2, dx, Nat.le_trans (Nat.le_of_lt F4.ns.lt) dn, dne, hx, hn⟩
end
end MiniP
namespace MiniP
open PySem PySem.Spec PyProof.Rows L2
theorem pmk_pay {X : Cx} {x f : Str} {C fI : Addr} {k : Nat} {e : Expr} {te : TE} {p pos : Pos} (P : PayK X.K X.prog C fI f) (T : OexC X.K C) (iC : PySem.W.findIn X.K (.ref C) "__init__" = some (some (.ref fI))) (tI : PySem.W.typeIn X.K (.ref fI) = some (.type "function"))
    (hr : Room (k + 1) X.A) (hg : Gl X x) (hm : X.mg x = some (.ref C)) (he : PE X e te) (hs : starEach [e] X.env = [(false, eval e X.env)]) (hdb : (x == ("__debug__" : Str)) = false := by decide) :
    PMk X (.Call (.Name x p) [e] [] pos) (fun σ H Q => te σ H fun v H1 => ∀ d, H1 d = none → Q (.ref C) (some d) (upd H1 d (.xd [(f, v)]))) := by
  intro pins s σ H Q I h
  obtain ⟨nm, q, N, bs, bm, sn, sub, ab, col, dd, k0, k1, k2, k3, k5, hC, hbm⟩ := T.cls
  have ha : PA X [e] (tCons te tNil) := pa_cons he pa_nil hs
  refine wpAny_Call_Name_kw (ld_glob I hg hm ?_ hdb)
  refine PySem.W.callWith_K (h₀ := X.base) I.ok.mod.kin T.kC (thn (ha.run pos pins s σ H (fun vs H1 => ∃ v, vs = [v] ∧ ∀ d, H1 d = none → Q (.ref C) (some d) (upd H1 d (.xd [(f, v)]))) I ?_) fun us s1 ⟨vs, H1, I1, r1, v, ev, q1⟩ => ⟨I1.kIn, ?_⟩) hs (by rfl)
  · have e1 : (te σ H fun v H1 => ∃ v', [v] = [v'] ∧ ∀ d, H1 d = none → Q (.ref C) (some d) (upd H1 d (.xd [(f, v')]))) = te σ H fun v H1 => ∀ d, H1 d = none → Q (.ref C) (some d) (upd H1 d (.xd [(f, v)])) := by
      congr 1
      funext v H1
      apply propext
      constructor
      · rintro ⟨v', e1, q⟩
        cases e1
        exact q
      · exact fun q => ⟨v, rfl, q⟩
    show te σ H fun v H1 => ∃ v', [v] = [v'] ∧ ∀ d, H1 d = none → Q (.ref C) (some d) (upd H1 d (.xd [(f, v')]))
    rw [e1]
    exact h
  subst ev
  obtain ⟨u, hu, ru⟩ : ∃ u, us = [u] ∧ RelV v u := by
    cases r1 with
    | cons r r' =>
      cases r'
      exact ⟨_, rfl, r⟩
  subst hu
  show wpAny _ _ (call (.ref C) [u]) _ _ _
  obtain ⟨hp, g, dr, tk, os⟩ := s1
  have hsz : hp.objs.size ≤ hp.objs.size + 1 := Nat.le_succ _
  have hn : H1 (hp.objs.size + 1) = none := I1.hok.fresh hsz
  have kk : ∀ b o, hp.get? b = some o → ((hp.push (PySem.W.kdv_tup [u])).push (PySem.HandSPX.excO C hp.objs.size)).get? b = some o := fun b o z => Heap.get?_push_of_some _ (Heap.get?_push_of_some _ z)
  have hget : ((hp.push (PySem.W.kdv_tup [u])).push (PySem.HandSPX.excO C hp.objs.size)).get? (hp.objs.size + 1) = some (PySem.HandSPX.excO C hp.objs.size) := by heap_get
  have hps : ((hp.push (PySem.W.kdv_tup [u])).push (PySem.HandSPX.excO C hp.objs.size)).objs.size = hp.objs.size + 1 + 1 := by first | rfl | simp [Heap.push]
  have bk : ∀ b o, X.base.get? b = some o → ((hp.push (PySem.W.kdv_tup [u])).push (PySem.HandSPX.excO C hp.objs.size)).get? b = some o := fun b o z => kk b o (I1.bk b o z)
  have bn : X.base.get? (hp.objs.size + 1) = none := by
    cases z : X.base.get? (hp.objs.size + 1) with
    | none => rfl
    | some o => exact absurd (Heap.lt_size (I1.bk _ _ z)) (by show ¬ hp.objs.size + 1 < hp.objs.size; omega)
  refine wpAny_call (PySem.HandSPX.call_own F.excBase_ValueError (fun Y => PySem.HandSPX.refsVE_contains Y bm hbm) (I1.kIn _ _ hC) (PySem.W.looks_findIn I1.kIn iC) (fun self => PySem.W.bind_fn I1.kIn self tI) (by rw [sizeLine_eq]; simp)
    (codeAny_mono (run P I1.ok.mod.kin I1.ok.mod.glob I1.ok.mod.blt I1.ok.mod.nolimit bk bn hget (hr.make C [u] []).depth) fun r s' hq' => ?_))
  obtain ⟨er, eos, eg, kept, t1, dx, dxn, dxa, hoe, hns⟩ := hq'
  subst er
  obtain ⟨h2, g2, d2, t2, os'⟩ := s'
  have eos : os' = os := eos
  have eg : g2 = g := eg
  subst eos
  subst eg
  have hdx : H1 dx = none := I1.hok.fresh (by have : hp.objs.size + 1 + 1 ≤ dx := by rw [← hps]; exact dxn
                                              show hp.objs.size ≤ dx
                                              omega)
  have hdx1 : upd H1 (hp.objs.size + 1) (exo (hp.objs.size + 1) C none) dx = none := by rw [upd_ne dxa]; exact hdx
  have I2 : Inv X pins σ (upd H1 (hp.objs.size + 1) (exo (hp.objs.size + 1) C none)) ⟨(hp.push (PySem.W.kdv_tup [u])).push (PySem.HandSPX.excO C hp.objs.size), g2, dr, tk, os'⟩ :=
    I1.laid (t' := tk) (a := hp.objs.size + 1) (o := exo (hp.objs.size + 1) C none) (h' := (hp.push (PySem.W.kdv_tup [u])).push (PySem.HandSPX.excO C hp.objs.size)) kk hsz (exo_ok hget)
  generalize ea : hp.objs.size + 1 = a at *
  generalize eH : upd H1 a (exo a C none) = Ha at *
  have eHa : Ha a = some (exo a C none) := by rw [← eH, upd_same]
  have na : ∀ {b : Addr}, Ha b = none → b ≠ a := fun {b} n z => by
    rw [z, eHa] at n
    cases n
  generalize ehp : (hp.push (PySem.W.kdv_tup [u])).push (PySem.HandSPX.excO C hp.objs.size) = hpp at *
  have nd : ∀ {b : Addr} {o : Obj}, hpp.get? b = some o → b ≠ dx := fun {b o} z => Nat.ne_of_lt (Nat.lt_of_lt_of_le (Heap.lt_size z) dxn)
  have U : Un (frs X.stack) [] Ha (upd (upd Ha dx (exd dx [(f, v)])) a (exo a C (some dx))) hpp h2 := {
    keep := fun b o z n _ _ => kept b o (na n) z
    slot := fun b o z n _ _ => ⟨o.slots, kept b o (na n) z⟩
    free := fun b o z n _ => by rw [upd_ne (na n), upd_ne (nd z)]; exact n
    there := fun b o z _ => by
      by_cases hb : b = a
      · exact ⟨_, by rw [hb]; exact hoe⟩
      · exact ⟨o, kept b o hb z⟩
    tups := fun b xs z => by rw [upd_ne (at_ne eHa z exo_tup), upd_ne (ne_of_none z hdx1)]; exact z
    frzs := fun b o v z => by rw [upd_ne (at_ne eHa z exo_frz), upd_ne (ne_of_none z hdx1)]; exact z
    tbls := fun b ps z => ⟨#[], by rw [upd_ne (at_ne eHa z exo_tbl), upd_ne (ne_of_none z hdx1), z]; simp⟩ }
  have hok : HOk X.prog X.w (upd (upd Ha dx (exd dx [(f, v)])) a (exo a C (some dx))) h2 := fun b o z => by
    by_cases hb : b = a
    · subst hb
      rw [upd_same] at z
      cases z
      exact exo_ok hoe
    · rw [upd_ne hb] at z
      by_cases hd : b = dx
      · subst hd
        rw [upd_same] at z
        cases z
        exact exd_ok hns (relO_put (fs := []) ru fun g => True.intro)
      · rw [upd_ne hd] at z
        refine (I2.hok b o z).stay (fun c y hc z2 => kept c y ?_ z2) (fun c hc => by rw [upd_ne (at_ne eHa hc exo_own), upd_ne (ne_of_none hc hdx1)]; exact hc)
          (fun c xs hc => by rw [upd_ne (at_ne eHa hc exo_tup), upd_ne (ne_of_none hc hdx1)]; exact hc)
        rcases hc with hc | hc
        · rw [hc]
          exact hb
        · exact at_ne eHa hc exo_own
  have eF : upd (del (upd (upd Ha dx (exd dx [(f, v)])) a (exo a C (some dx))) a) dx (.xd [(f, v)]) = upd H1 dx (.xd [(f, v)]) := by
    funext b
    by_cases hd : b = dx
    · rw [hd, upd_same, upd_same]
    · rw [upd_ne hd, upd_ne hd]
      by_cases hb : b = a
      · rw [hb, del_same, hn]
      · rw [del_ne hb, upd_ne hb, upd_ne hd, ← eH, upd_ne hb]
  refine ⟨rfl, mk_end (hp2 := hpp) (raises_own T.exC T.tyC) I1 hsz kk (by rw [eH]; exact U) hok rfl I1.bare upd_same (by rw [upd_ne dxa, upd_same]) hdx ?_⟩
  rw [eF]
  exact q1 dx hdx
end MiniP
namespace MiniP
open PySem PySem.W PySem.Calls PyProof.Rows L2
def excB (K : PySem.W.Frag) (C : Addr) : Bool := match K.lookup C with
  | some ⟨.type "type", _, .cls cd, sl⟩ => (match cd.mro, sl.toList with
    | .ref D :: bm, [_, _, _, _, some (.builtin n), _] => decide (D = C) && decide (n = "ValueError.__new__") && !cd.hasDel && cd.hasDict && PySem.HandSPX.refsVE bm
    | _, _ => false)
  | _ => false
theorem excB_ok {K : PySem.W.Frag} {C : Addr} (h : excB K C = true) : ∃ nm q N bs bm sn sub ab col dd k0 k1 k2 k3 k5, K.lookup C = some (excClassObj nm q C N bs bm true sn sub ab col dd k0 k1 k2 k3 k5 "ValueError.__new__") ∧ PySem.HandSPX.refsVE bm = true := by
  unfold excB at h
  split at h
  · rename_i dd cd sl ho
    split at h
    · rename_i D bm k0 k1 k2 k3 n k5 hm hs
      simp only [Bool.and_eq_true, decide_eq_true_eq, Bool.not_eq_true'] at h
      obtain ⟨⟨⟨⟨rfl, rfl⟩, h3⟩, h4⟩, h5⟩ := h
      obtain ⟨nm, bs, mro, N, q, hd, sn, sub, ab, col, del⟩ := cd
      dsimp only at hm h3 h4
      subst hm h3 h4
      have hsl : sl = #[k0, k1, k2, k3, some (.builtin "ValueError.__new__"), k5] := by
        obtain ⟨l⟩ := sl
        simp only at hs
        rw [hs]
      subst hsl
      exact ⟨nm, q, N, bs, bm, sn, sub, ab, col, dd, k0, k1, k2, k3, k5, ho, h5⟩
    · cases h
  · cases h
def codeB (K : PySem.W.Frag) (file : Str) (cda : Addr) : Bool := match K.lookup cda with
  | some ⟨_, _, .fields vs, _⟩ => (match (vs[2]? : Option Value) with
    | some (Value.str f _) => (file == f)
    | _ => false)
  | _ => false
def cellB (K : PySem.W.Frag) (C cc : Addr) : Bool := match K.lookup cc with
  | some ⟨_, _, .cell (some (.ref D)), _⟩ => decide (D = C)
  | _ => false
def initB (K : PySem.W.Frag) (file : Str) (C fI : Addr) (f : Str) : Bool := match K.lookup fI with
  | some ⟨_, _, .func ⟨name, qual, ⟨[], [a0, a1], none, [], [], none, []⟩, .stmts [.Expr (.Call (.Attribute (.Call (.Name su q1) [] [] q2) ini q3) [.Constant (.str msg) j q4] [] q5) q6, .Assign [.Attribute (.Name x0 q7) g q8] (.Name x1 q9) q10], sc, glo, [(cn, cc)], .none, kV, doc, pm, an, .ref cda, ct, bu⟩, _⟩ =>
    decide (name = "__init__") && decide (su = "super") && decide (ini = "__init__") && decide (cn = "__class__") && decide (x0 = a0.arg) && decide (x1 = a1.arg) && decide (g = f) && decide (glo = mainGlobals) && decide (bu = builtinsNs) && codeIn K (.ref cda) qual &&
    codeB K file cda && cellB K C cc && decide (sc.names.lookup ("super" : Str) = some .globalImplicit) && decide (sc.names.lookup ("__class__" : Str) = some .free) && decide (sc.names.lookup x0 = some .local) && decide (sc.names.lookup x1 = some .local) && decide (sc.kind = .function) &&
    !sc.isCoroutine && !sc.isGenerator && sc.names.all (fun y => !decide (y.2 = .cell)) && !decide (x0 = x1) && (q3.endLine == q5.line) && !(x0 == ("__debug__" : Str)) && !(x1 == ("__debug__" : Str)) && (decide (a0.arg = "self") && (decide (a1.arg = "part") || decide (a1.arg = "place")))
  | _ => false
def clsB (K : PySem.W.Frag) (C : Addr) : Bool := match clsIn K C with
  | some cd => PySem.HandSPX.refsVE cd.mro && cd.hasDict
  | none => false
def payB (K : PySem.W.Frag) (file : Str) (C : Addr) (f : Str) : Bool := match findIn K (.ref C) "__init__" with
  | some (some (.ref fI)) => initB K file C fI f && excB K C && clsB K C && xfB K C && decide (typeIn K (.ref fI) = some (.type "function")) && decide (mroIn K C (.ref C) = some true) && decide (ks_superIn K C C "__init__" = some (some (.builtin "ValueError.__init__"))) &&
    decide (subIn K (.ref C) (.type "ValueError") = some true) && decide (nsIn K cStatics "thirdparty.any" = some none) && excInitIn K C [.type "ValueError", .type "Exception", .type "BaseException", .type "object"] "ValueError.__new__" &&
    decide (findIn K (.ref C) "__setattr__" = some (some (.builtin "object.__setattr__"))) && decide (findIn K (.ref C) f = some none) && decide (nsIn K mainGlobals "super" = some none) && decide (typeIn K (.ref C) = some (.type "type")) && keepIn K (.ref C)
  | _ => false
structure PayC (K : PySem.W.Frag) (prog : Program) (C : Addr) (f : Str) : Prop where
  ex : ∃ fI, PayK K prog C fI f ∧ findIn K (.ref C) "__init__" = some (some (.ref fI)) ∧ typeIn K (.ref fI) = some (.type "function")
  o : OexC K C
  x : XfC K C
theorem payB_ok {K : PySem.W.Frag} {file : Str} {prog : Program} {C : Addr} {f : Str} (h : payB K file C f = true) (hf : prog.main.file = file) (ht : (prog.main.scope.names.lookup ("super" : Str)).isSome = false) : PayC K prog C f := by
  unfold payB at h
  split at h
  · rename_i fI hI
    simp only [Bool.and_eq_true, decide_eq_true_eq] at h
    obtain ⟨⟨⟨⟨⟨⟨⟨⟨⟨⟨⟨⟨⟨⟨h1, h2⟩, h3⟩, h4⟩, h5⟩, h6⟩, h7⟩, h8⟩, h9⟩, h10⟩, h11⟩, h12⟩, h13⟩, h14⟩, h15⟩ := h
    have X := xfB_ok h4
    refine ⟨⟨fI, ⟨?_, ht, ?_, h6, h7, h8, h9, h10, h11, h12, h13⟩, hI, h5⟩, ⟨excB_ok h2, h11, X.exC, h14, h15⟩, X⟩
    · unfold initB at h1
      split at h1
      · rename_i oc od name qual a0 a1 su q1 q2 ini q3 msg j q4 q5 q6 x0 q7 g q8 x1 q9 q10 sc glo cn cc kV doc pm an cda ct bu osl lk
        simp only [Bool.and_eq_true, decide_eq_true_eq, Bool.not_eq_true', List.all_eq_true, decide_eq_false_iff_not, Bool.or_eq_true] at h1
        obtain ⟨⟨⟨⟨⟨⟨⟨⟨⟨⟨⟨⟨⟨⟨⟨⟨⟨⟨⟨⟨⟨⟨⟨⟨k1, k2⟩, k3⟩, k4⟩, k5⟩, k6⟩, k7⟩, k8⟩, k9⟩, k10⟩, k11⟩, k12⟩, k13⟩, k14⟩, k15⟩, k16⟩, k17⟩, k18⟩, k19⟩, k20⟩, k21⟩, k22⟩, k23⟩, k24⟩, k25, k26⟩ := h1
        subst k1 k2 k3 k4 k5 k6 k7 k8 k9
        unfold codeB at k11
        split at k11
        · rename_i c1 c2 vs c3 hc
          split at k11
          · rename_i f2 tf hv
            unfold cellB at k12
            split at k12
            · rename_i d1 d2 D d3 hd
              have eD := of_decide_eq_true k12
              subst eD
              refine ⟨a0.arg, a1.arg, qual, _, sc, .none, kV, doc, pm, ct, oc, an, od, osl, cc, cda, q1, q2, q3, q4, q5, q6, q7, q8, q9, q10, q10, j, msg, a0, c1, d1, c2, d2, c3, d3, vs, f2, tf, lk, k10, rfl, rfl, hc, hv, by rw [hf]; exact k11, hd, k13, k14, k15, k16, k17, k18, k19, fun y hy => k20 y hy, k21, k22, k23, k24, fun us hl => ?_⟩
              match us, hl with
              | [u0, u1], _ =>
                obtain ⟨a0n, a0a, a0p⟩ := a0
                obtain ⟨a1n, a1a, a1p⟩ := a1
                dsimp only at k25 k26
                subst k25
                rcases k26 with rfl | rfl <;> rfl
            · cases k12
          · cases k11
        · cases k11
      · cases h1
    · unfold clsB at h3
      split at h3
      · rename_i cd hc
        rw [Bool.and_eq_true] at h3
        exact ⟨cd, hc, h3.1, h3.2⟩
      · cases h3
  · cases h
end MiniP

namespace MiniL
open PySem PySem.Spec PyProof.Rows L2
theorem kin_classP {prog : Program} {w : World} {A : Around} {E : Value → Shared → Prop} {s : Shared} {K : PySem.W.Frag} {x D : Addr} {ox od : Obj} {Q : Option Value → Shared → Prop} (C : ExcC K D) (X : K.In s.heap) (I : PySem.W.InstAt s.heap x ox D (some od))
    (h : Q (some (.ref D)) { s with toks := s.toks + 1 }) : wpAny (model prog w) A (getAttr? (.ref x) "__class__") Q E s := by
  have hf := PySem.W.findObj_data (K := K) (C := D) (od := od) (name := "__class__") (by
    obtain ⟨cd, hc, _⟩ := PySem.W.any_some C.hd
    rw [hc]; rfl) C.ha C.hn C.ht
  obtain ⟨hp, g, d, t, os⟩ := s
  have L0 := fun M => PySem.W.InstAt.type (M := M) I
  have L1 := fun M => PySem.W.looks_findIn (M := M) X C.hg
  have L2 := fun M => PySem.W.looks_findIn (M := M) X C.hk
  have L3 := fun M => PySem.W.looks_find (M := M) X I hf
  have sub : ∀ M, PySem.W.Looks M hp (isInstance (.ref x) (.type "BaseException")) true := fun M => PySem.W.Looks.andThen (L0 M) (PySem.W.looks_subIn (M := M) X C.hs)
  have hx2 : (Value.builtin "BaseException.__getattribute__" == Value.builtin "object.__getattribute__") = false := by decide +kernel
  unfold getAttr?
  refine wpAny_bind (wpAny_mkText ?_)
  unfold getAttrBy?
  refine wpAny_bind (wpAny_attempt ?_)
  unfold getAttrBy
  refine wpAny_holding (wpAny_bind ((L0 _).at (wpAny_bind ((L1 _).at ?_))))
  have hx1 : (onTheHeap (Value.ref D) && (Value.builtin "BaseException.__getattribute__" == Value.builtin "object.__getattribute__")) = false := by rw [hx2, Bool.and_false]
  simp only [hx1, Bool.false_eq_true, if_false]
  unfold getAttrByItsOwn hookBefore
  refine wpAny_bind ?_
  rw [if_pos (show onTheHeap (Value.ref D) = true from rfl)]
  refine (L2 _).at (wpAny_bind (wpAny_attempt (wpAny_holding ?_)))
  unfold callGetattribute
  rw [show (false && onTheHeap (Value.builtin "BaseException.__getattribute__")) = false from rfl, if_neg Bool.false_ne_true]
  unfold boundAndCalled
  rw [F.excAttr_ValueError.ga.bind (.ref x)]
  refine wpAny_bind (wpAny_pure ?_)
  show wpAny _ _ (call (.builtin "BaseException.__getattribute__") [.ref x, .str "__class__" t]) _ _ _
  refine wpAny_call ?_
  refine codeAny_call_builtin F.excAttr_ValueError.ga.plain F.entry_bexc_ga ?_
  have h1 : builtinKind "BaseException.__getattribute__" = some Manifest.AttrKind.slot := PySem.W.kin_classE._proof_2
  have h2 : splitId "BaseException.__getattribute__" = some ("BaseException", "__getattribute__") := PySem.W.kin_classE._proof_3
  have h3 := sub (model prog w)
  have h4 := F.args_bexc_ga (.ref x) (.str "__class__" t)
  refine PySem.W.check_slot (i := "BaseException.__getattribute__") (self := .ref x) (rest := [.str "__class__" t]) (kw := []) (owner := "BaseException") (n := "__getattribute__") h1 h2 h3 h4 ?_
  unfold Builtin.«object.__getattribute__»
  have hs : slotArgs "__getattribute__" 1 ⟨[.ref x, .str "__class__" t], []⟩ = pure (Value.ref x, [.str "__class__" t]) := rfl
  rw [hs]
  refine wpAny_bind (wpAny_pure ?_)
  refine wpAny_bind (wpAny_pure (wpAny_bind ((L0 _).at (wpAny_bind ((L3 _).at ?_)))))
  refine wpAny_bind (wpAny_holding (wpAny_call (PySem.W.class_get X I C.hm (wpAny_pure ?_))))
  show wpAny _ _ (handedOut _) _ _ _
  rw [PySem.W.handedOut_of rfl]
  exact wpAny_pure (wpAny_pure h)
theorem kitx_excP {K : PySem.W.Frag} {x D : Addr} {ox od : Obj} (C : ExcC K D) : PySem.W.KitX K (.ref x) (.ref D) fun h => PySem.W.InstAt h x ox D (some od) := by
  have Z := PySem.W.handS_kitx_exc (K := K) (x := x) (D := D) (ox := ox) C.hg C.hk C.hs C.hd C.ha C.hn C.ht C.hm
  obtain ⟨cd, hc, _⟩ := PySem.W.any_some C.hd
  obtain ⟨oc, hD, hd⟩ : ∃ oc, K.lookup D = some oc ∧ oc.data = .cls cd := by
    unfold PySem.W.clsIn at hc
    split at hc
    · rename_i z1 z2 z3 z4 z5
      cases hc
      exact ⟨_, z5, rfl⟩
    · cases hc
  refine ⟨fun M h X I => PySem.W.InstAt.type I, fun M h X _ A' Q' E' s' k q => wpAny_bind (wpAny_loadPart (k _ _ (X _ _ hD)) ?_), fun h tp dd its n sl X htp => Bool.eq_false_iff.mpr fun q => ?_, fun X I h => kin_classP C X I h⟩
  · rw [hd]
    exact wpAny_pure q
  · have e := Value.ref.inj (beq_iff_eq.mp q)
    subst e
    have z := (X _ _ hD).symm.trans htp
    cases z
    cases hd
def rIsP (K : PySem.W.Frag) (D : Addr) (a : Addr) (d : Option Addr) : List V → Hp → VK → Prop := fun xs H Q =>
  ∃ (c : V) (cv : Value) (b : Bool), xs = [.ref a, c] ∧ (∀ u, RelV c u → u = cv) ∧ PySem.W.kitOne K (.ref D) cv = some b ∧ (∀ dd, d = some dd → ∃ fs, H dd = some (.xd fs)) ∧ Q (.bl b) H
theorem call_isP {X : Cx} {a D : Addr} {d : Option Addr} {oe : Obj} {pn : List (Addr × Obj)} (C : ExcC X.K D) (hz : Zc (.ref D) d oe) (hf : ∃ vs, oe.data = .fields vs) : CallR (X.suite a ((a, oe) :: pn)) (.builtin "isinstance") (rIsP X.K D a d) := by
  cases d with
  | none =>
    intro pins s σ H xs us Q I r h
    obtain ⟨c, cv, b, e1, e2, e3, e4, e5⟩ := h
    exact call_isE C hz hf pins s σ H xs us Q I r ⟨c, cv, b, e1, e2, e3, e5⟩
  | some dd =>
    intro pins s σ H xs us Q I r h
    obtain ⟨c, cv, b, rfl, e2, e3, e4, e5⟩ := h
    obtain ⟨u1, u2, rfl, r1, r2⟩ := vals2 r
    obtain rfl := e2 _ r2
    obtain rfl : u1 = Value.ref a := r1
    obtain ⟨ha, _⟩ := I.pin (a, oe) (List.mem_append_left _ List.mem_cons_self)
    obtain ⟨fs, ef⟩ := e4 dd rfl
    obtain ⟨mA, hns, hr⟩ := I.hok dd _ ef
    obtain ⟨od, ho, hl⟩ := lookIn_ns hns
    obtain ⟨vs, hv⟩ := hf
    refine PySem.W.kia_one (kitx_excP (ox := oe) (od := od) C) I.kIn ⟨ha, hz.1, ?_, ?_⟩ e3 (by intro z; cases z) fun tk => ⟨.bl b, H, I.tok _, rfl, e5⟩
    · unfold PySem.W.notCls
      rw [hv]
    · rw [hz.2]
      exact ho
end MiniL

namespace MiniL
open PySem PySem.Spec PyProof.Rows L2
structure LTx where
  params : Arguments
  body : Expr
  scope : Scope
  pos : Pos
  t : XK → TE
def LTx.ex (l : LTx) : Expr := .Lambda l.params l.body l.scope l.pos
structure LRec where
  l : LTx
  f : Addr
  c : Addr
  pm : Value
  ct : Value
@[reducible] def LRec.obj (X : Cx) (r : LRec) : Obj := PySem.W.kla_obj "<lambda>" (X.env.qual ++ "<lambda>") r.l.params r.l.body r.l.scope (cloFrom X.env.cells r.l.scope.names []) r.pm r.c r.ct
@[reducible] def pinsOf (X : Cx) (rs : List LRec) : List (Addr × Obj) := rs.map fun r => (r.f, r.obj X)
section
variable {X : Cx} {pins : List (Addr × Obj)} {σ : L2.St} {H : Hp} {s : Shared}
theorem inv_pin (hs : X.stack = X.env :: X.outer ∧ X.env.frame = some X.env.locals) {f : Addr} {o : Obj} (I : Inv X pins σ H s) (h1 : s.heap.get? f = some o) (h2 : H f = none) (h3 : f ∉ frs X.stack) (h4 : ∀ v, o.data ≠ .cell v) : Inv X ((f, o) :: pins) σ H s := by
  refine ⟨I.ok, I.os, I.bare, I.base, I.loc, I.cell, I.free, I.freeC, fun p hp => ?_, I.hok, I.len⟩
  have h3' : f ≠ X.env.locals ∧ f ∉ X.fs := by
    rw [hs.1] at h3
    unfold frs at h3
    rw [List.filterMap_cons, hs.2] at h3
    simp only [List.mem_cons, not_or] at h3
    exact h3
  rw [List.mem_append, List.mem_cons] at hp
  rcases hp with hp | rfl | hp
  · exact I.pin p (List.mem_append_left _ hp)
  · exact ⟨h1, h2, h3'.1, h3'.2, h4⟩
  · exact I.pin p (List.mem_append_right _ hp)
theorem inv_tr {pn : List (Addr × Obj)} (I : Inv X (pn ++ pins) σ H s) : Inv (X.tr (X.pn ++ pn) X.xe) pins σ H s := by
  have ok : (X.tr (X.pn ++ pn) X.xe).Ok := ⟨I.ok.mod, I.ok.kind, I.ok.glob, I.ok.blt, I.ok.above, I.ok.inj, I.ok.has, I.ok.cab, I.ok.hd, I.ok.frames, I.ok.stk, I.ok.exf, I.ok.bs, I.ok.bsz, I.ok.noex, I.ok.exfs, I.ok.funs, I.ok.frf⟩
  refine ⟨ok, I.os, I.bare, I.base, I.loc, I.cell, I.free, I.freeC, fun p hp => I.pin p ?_, I.hok, I.len⟩
  rw [List.append_assoc] at hp
  exact hp
theorem inv_untr {pn : List (Addr × Obj)} (I : Inv (X.tr (X.pn ++ pn) X.xe) pins σ H s) : Inv X pins σ H s := by
  have ok : X.Ok := ⟨I.ok.mod, I.ok.kind, I.ok.glob, I.ok.blt, I.ok.above, I.ok.inj, I.ok.has, I.ok.cab, I.ok.hd, I.ok.frames, I.ok.stk, I.ok.exf, I.ok.bs, I.ok.bsz, I.ok.noex, I.ok.exfs, I.ok.funs, I.ok.frf⟩
  refine ⟨ok, I.os, I.bare, I.base, I.loc, I.cell, I.free, I.freeC, fun p hp => I.pin p ?_, I.hok, I.len⟩
  rw [List.mem_append] at hp ⊢
  rcases hp with hp | hp
  · exact .inl (List.mem_append_left _ hp)
  · exact .inr hp
theorem lam_list (hs : X.stack = X.env :: X.outer ∧ X.env.frame = some X.env.locals) {T : List (Addr × Str)} {c P : Addr} (TB : LamX.TabB X.base X.mg c P) (hcode : X.env.code = .ref c) (hmT : (P, X.env.qual ++ "<lambda>") ∈ T) (hu : ∀ p ∈ T, p.1 = P → p.2 = X.env.qual ++ "<lambda>") :
    ∀ (ls : List LTx), (∀ l, l ∈ ls → LamX.LamS X.env.scope l.scope ∧ defaultsOf l.params X.env = ([], [])) → ∀ {pos : Pos} {pins : List (Addr × Obj)} {σ : L2.St} {H : Hp} {s : Shared} {Q : List Value → Shared → Prop}, Inv X pins σ H s → LamX.Tabs T H →
    (∀ (rs : List LRec) (H1 : Hp) (s' : Shared), Inv X (pinsOf X rs ++ pins) σ H1 s' → LamX.ExtN H H1 → LamX.Tabs T H1 → rs.map (·.l) = ls → (∀ r, r ∈ rs → H1 r.c = some (LamX.CodeO r.c (X.env.qual ++ "<lambda>"))) → Q (rs.map fun r => .ref r.f) s') →
    wpAny (model X.prog X.w) X.A (spliced (backTo pos (starEach (ls.map LTx.ex) X.env))) Q X.xe s
  | [], _, pos, pins, σ, H, s, Q, I, hT, q => by
    exact Calls.spliced_nil (q [] H s I (LamX.ExtN.refl H) hT rfl fun r hr => by cases hr)
  | l :: ls, hl, pos, pins, σ, H, s, Q, I, hT, q => by
    obtain ⟨h1, h2⟩ := hl l (List.mem_cons_self ..)
    refine Calls.spliced_cons (LamX.lam_make2 I TB hcode hmT hu hT h2 (h1.has I.ok) fun f c' pm ctv H1 s' I1 eN T1 hf hfn hfr hco => ?_)
    have I2 := inv_pin hs I1 hf hfn hfr (fun v z => by cases z)
    refine lam_list hs TB hcode hmT hu ls (fun l hl' => hl l (List.mem_cons_of_mem _ hl')) I2 T1 fun rs H2 s2 I3 e3 T3 e4 e5 => ?_
    refine q (⟨l, f, c', pm, ctv⟩ :: rs) H2 s2 ?_ (eN.trans e3) T3 (by rw [List.map_cons, e4]) fun r hr => ?_
    · refine ⟨I3.ok, I3.os, I3.bare, I3.base, I3.loc, I3.cell, I3.free, I3.freeC, fun p hp => I3.pin p ?_, I3.hok, I3.len⟩
      simp only [pinsOf, List.map_cons, List.mem_append, List.mem_cons] at hp ⊢
      grind
    · rcases List.mem_cons.mp hr with rfl | hr
      · exact e3 _ _ hco (fun ps z => by cases z)
      · exact e5 r hr
theorem pe_toldv {TT : (XK → Hp → VK → Prop) → Hp → VK → Prop} {x a : Str} {g : Addr} {k : Nat} {pg : Arguments} {bg : List Stmt} {sg : Scope} {dV kV doc pm cdv ct oc : Value} {an od : Option Addr} {osl : Array (Option Value)} {Ng : List Str}
    {rs : List LRec} {arg : Expr} {ta : TE} {p pos : Pos} (hs : X.stack = X.env :: X.outer ∧ X.env.frame = some X.env.locals)
    (hg : Gl X x) (hm : X.mg x = some (.ref g)) (hk : PySem.W.keepIn X.K (.ref g) = true) (lk : X.K.lookup g = some ⟨oc, od, .func (PySem.W.fnOf x x pg bg sg dV kV doc pm an cdv ct), osl⟩) (hcg : PySem.W.codeIn X.K cdv x = true)
    (hb : Binds X.K (PySem.W.fnOf x x pg bg sg dV kV doc pm an cdv ct) [a] []) (Sg : FnScope Ng [a] sg) (hNg : Ng[0]? = some a) (hva : Vis sg a) (hG : LamX.GivesTo X Ng x sg g cdv bg a (X.env.qual ++ "<lambda>") TT) (hr : Room (k + 2) X.A)
    (hl : ∀ r, r ∈ rs → LamX.LamS X.env.scope r.l.scope ∧ (∀ (q : Str) (cl : List (Str × Addr)) (pm cv ctv : Value), bindArgs (PySem.W.kla_fn "<lambda>" q r.l.params r.l.body r.l.scope cl pm cv ctv) ⟨[], []⟩ = pure []) ∧
      ∀ (A : Around) (outer : List Env) (s : Shared) (H : Hp) (E : XK) (f c' : Addr), Room k (A.deeper (LamX.lamEnv X r.l.scope s.heap.objs.size f c')) → PE (LamX.lamCx X A outer s H E r.l.scope f c') r.l.body (r.l.t E))
    (hp : ∀ r, r ∈ rs → (r.f, r.obj X) ∈ X.pn) (ha : PE X arg ta) (hst : starEach [arg] X.env = [(false, eval arg X.env)])
    (hdb : (x == ("__debug__" : Str)) = false) (hd : (a == ("__debug__" : Str)) = false) (hcd : (a == ("__classdict__" : Str)) = false) :
    PE X (.Call (.Name x p) [arg] [] pos) (fun σ H Q => ta σ H fun v H1 => ∃ r, r ∈ rs ∧ v = .ref r.f ∧ H1 r.c = some (LamX.CodeO r.c (X.env.qual ++ "<lambda>")) ∧ TT (fun E H' Q' => r.l.t E σ H' Q') H1 Q) := by
  refine ⟨fun pins s σ H Q I h => ?_⟩
  have hpa : PA X [arg] (tCons ta tNil) := pa_cons ha pa_nil hst
  let W : List V → Hp → Prop := fun vs H1 => ∃ r, r ∈ rs ∧ vs = [.ref r.f] ∧ H1 r.c = some (LamX.CodeO r.c (X.env.qual ++ "<lambda>")) ∧ TT (fun E H' Q' => r.l.t E σ H' Q') H1 Q
  have hW : tCons ta tNil σ H W := by
    have e1 : (fun v H1 => W [v] H1) = fun v H1 => ∃ r, r ∈ rs ∧ v = .ref r.f ∧ H1 r.c = some (LamX.CodeO r.c (X.env.qual ++ "<lambda>")) ∧ TT (fun E H' Q' => r.l.t E σ H' Q') H1 Q := by
      funext v H1
      apply propext
      constructor
      · rintro ⟨r, h1, h2, h3⟩
        cases h2
        exact ⟨r, h1, rfl, h3⟩
      · rintro ⟨r, h1, h2, h3⟩
        cases h2
        exact ⟨r, h1, rfl, h3⟩
    show ta σ H fun v H1 => W [v] H1
    rw [e1]
    exact h
  refine wpAny_Call_Name_kw (ld_glob I hg hm ?_ hdb)
  refine PySem.W.callWith_K (h₀ := X.base) I.ok.mod.kin hk (thn (hpa.run pos pins s σ H W I hW) fun us s1 ⟨vs, H1, I1, rv, r, hr1, ev, hco, hT⟩ => ⟨I1.kIn, ?_⟩) hst (by rfl)
  subst ev
  obtain rfl : us = [Value.ref r.f] := by
    cases rv with
    | cons h1 h2 =>
      cases h2
      rw [show _ = Value.ref r.f from h1]
  obtain ⟨p1, p2, p3, p4, p5⟩ := I1.pin _ (List.mem_append_left _ (hp r hr1))
  obtain ⟨l1, l2, l3⟩ := hl r hr1
  have hfr : r.f ∉ frs X.stack := by
    rw [hs.1]
    unfold frs
    rw [List.filterMap_cons, hs.2]
    simp only [List.mem_cons, not_or]
    exact ⟨p3, p4⟩
  show wpAny _ _ (call (.ref g) [Value.ref r.f]) _ _ _
  have rc := LamX.run_ofS (CX := C8.CX0) (E := C8.E0) (Q := Q) (vs := [V.ref r.f]) (us := [Value.ref r.f]) lk hcg Sg hr I1.env0 (hb s1 [.ref r.f] I1.kIn rfl) (.cons rfl .nil) rfl fun hr' => by
    obtain ⟨t', h1, h2⟩ := hG r.f r.c s1 H1 Q (fun E H' Q' => r.l.t E σ H' Q') (fun W pn xe E q1 q2 tk hW => LamX.pe_act I1 l1 p1 p2 hfr (l2 _ _ _ _ _) tk hW hr' (fun A outer s H hr2 => l3 A outer s H E r.f r.c hr2) hNg hva hd hcd) hco hT
    exact ⟨t', h1.nox, h2⟩
  refine wpAny_call (codeAny_mono rc fun rr s2 hq => ?_)
  cases rr with
  | error e => exact hq.elim
  | ok fl =>
    cases fl with
    | ret u => exact I1.after hq
    | _ => exact hq.elim
end
end MiniL

namespace MiniL
open PySem PySem.Spec PyProof.Rows L2
structure CN (X : Cx) (x : Str) (v : V) (cv : Value) : Prop where
  gl : Gl X x
  db : (x == ("__debug__" : Str)) = false
  rel : RelV v cv
  uni : ∀ u, RelV v u → u = cv
  at_ : X.mg x = some cv ∨ (X.mg x = none ∧ bootBuiltins x = some cv ∧ x ≠ "__name__")
section
variable {X : Cx}
theorem CN.pe {x : Str} {v : V} {cv : Value} (h : CN X x v cv) {pos : Pos} : PE X (.Name x pos) (tC v) := by
  rcases h.at_ with e | ⟨e1, e2, e3⟩
  · exact pe_glob h.gl e h.rel h.db
  · exact pe_bltn h.gl e1 e2 h.rel e3 h.db
def isiE (en : Str) : List Str → List Expr → Bool
  | [], [] => true
  | x :: xs, .Call (.Name f _) [.Name e _, .Name y _] [] _ :: es => decide (f = ("isinstance" : Str)) && decide (e = en) && decide (x = y) && isiE en xs es
  | _, _ => false
def taI (K : PySem.W.Frag) (D a : Addr) (d : Option Addr) (i : Nat) : List V → TA
  | [] => tNil
  | v :: vs => tCons (tCB (rIsP K D a d) (tCons (tVar i) (tCons (tC v) tNil))) (taI K D a d i vs)
inductive CNs (X : Cx) : List Str → List V → List Value → Prop
  | nil : CNs X [] [] []
  | cons {x : Str} {v : V} {cv : Value} {xs : List Str} {vs : List V} {cvs : List Value} : CN X x v cv → CNs X xs vs cvs → CNs X (x :: xs) (v :: vs) (cv :: cvs)
inductive Kits (K : PySem.W.Frag) (t : Value) : List Value → List Bool → Prop
  | nil : Kits K t [] []
  | cons {cv : Value} {b : Bool} {cvs : List Value} {bs : List Bool} : PySem.W.kitOne K t cv = some b → Kits K t cvs bs → Kits K t (cv :: cvs) (b :: bs)
theorem pa_isi {a D : Addr} {d : Option Addr} {oe : Obj} {pn : List (Addr × Obj)} {en : Str} {i : Nat} (C : ExcC X.K D) (hz : Zc (.ref D) d oe) (hf : ∃ vs, oe.data = .fields vs) (hN : X.N[i]? = some en) (hv : Vis X.env.scope en) (hd1 : (en == ("__debug__" : Str)) = false) (hd2 : (en == ("__classdict__" : Str)) = false)
    (hg : Gl X "isinstance") (hm : X.mg "isinstance" = none) : ∀ {xs : List Str} {es : List Expr} {vs : List V} {cvs : List Value}, isiE en xs es = true → CNs X xs vs cvs → PA (X.suite a ((a, oe) :: pn)) es (taI X.K D a d i vs)
  | [], [], [], [], _, .nil => pa_nil
  | [], _ :: _, _, _, h, _ => by cases h
  | x :: xs, es, v :: vs, cv :: cvs, h, .cons c cs => by
    unfold isiE at h
    split at h
    · rename_i heq
      cases heq
    · rename_i x' xs' f p1 e p2 y p3 p4 es' heq
      cases heq
      simp only [Bool.and_eq_true, decide_eq_true_eq] at h
      obtain ⟨⟨⟨rfl, rfl⟩, rfl⟩, h⟩ := h
      have c' : CN (X.suite a ((a, oe) :: pn)) x v cv := ⟨c.gl, c.db, c.rel, c.uni, c.at_⟩
      have pv : PE (X.suite a ((a, oe) :: pn)) (.Name e p2) (tVar i) := pe_var hN hv hd1 hd2
      exact pa_cons (pe_callB (call_isP C hz hf) hg hm (by decide +kernel) (pa_cons pv (pa_cons c'.pe pa_nil (by rfl)) (by rfl)) (by decide) (by decide) (by rfl) (by rfl)) (pa_isi C hz hf hN hv hd1 hd2 hg hm h cs) (by rfl)
    · cases h
theorem isi_ans {K : PySem.W.Frag} {D a : Addr} {d : Option Addr} {i : Nat} {σ : L2.St} {H : Hp} (hs : σ[i]? = some (some (.ref a))) (hd : ∀ dd, d = some dd → ∃ fs, H dd = some (.xd fs)) : ∀ {xs : List Str} {vs : List V} {cvs : List Value} {bs : List Bool} {Q : List V → Hp → Prop},
    CNs X xs vs cvs → Kits K (.ref D) cvs bs → Q (bs.map .bl) H → taI K D a d i vs σ H Q
  | [], [], [], [], Q, .nil, .nil, q => q
  | x :: xs, v :: vs, cv :: cvs, b :: bs, Q, .cons c cs, .cons k ks, q => by
    refine ⟨_, hs, ?_⟩
    exact ⟨v, cv, b, rfl, c.uni, k, hd, isi_ans (Q := fun ys H' => Q (.bl b :: ys) H') hs hd cs ks q⟩
end
def tellB (a sn en c0 : Str) (cs1 cs2 : List Str) : List Stmt → Bool
  | [.Try [.Expr (.Call (.Name x _) [] [] _) _] [.ExceptHandler (some (.Name c _)) (some e) [.Assign [.Name s1 _] (.List es1 _) _, .Return (some (.BinOp (.Name s2 _) .Add (.List es2 _) _)) _] _] [] [] _, .Return (some (.List [] _)) _] =>
    decide (x = a) && decide (c = c0) && decide (e = en) && decide (s1 = sn) && decide (s2 = sn) && isiE en cs1 es1 && isiE en cs2 es2
  | _ => false
def wIs (K : PySem.W.Frag) (c0v : Value) (cvs1 cvs2 : List Value) (Q : VK) : XK := fun cls d H => ∃ (D : Addr) (bs1 bs2 : List Bool), cls = .ref D ∧ ExcC K D ∧ PySem.W.exmOne K cls c0v = some true ∧ Kits K cls cvs1 bs1 ∧ Kits K cls cvs2 bs2 ∧ bs1.length + bs2.length ≤ 1000 ∧
  (∀ dd, d = some dd → ∃ fs, H dd = some (.xd fs)) ∧ ∀ p1 p2 p, H p1 = none → (upd H p1 (.lst (bs1.map .bl))) p2 = none → (upd (upd H p1 (.lst (bs1.map .bl))) p2 (.lst (bs2.map .bl))) p = none →
    Q (.ref p) (upd (upd (upd H p1 (.lst (bs1.map .bl))) p2 (.lst (bs2.map .bl))) p (.lst (bs1.map .bl ++ bs2.map .bl)))
def TTq (K : PySem.W.Frag) (c0v : Value) (cvs1 cvs2 : List Value) : (XK → Hp → VK → Prop) → Hp → VK → Prop := fun tl H Q => tl (wIs K c0v cvs1 cvs2 Q) H fun _ H' => ∀ p, H' p = none → Q (.ref p) (upd H' p (.lst []))
theorem tell_gives {X : Cx} {x a sn en c0 q : Str} {sg : Scope} {g : Addr} {cdg : Value} {cs1 cs2 : List Str} {bg : List Stmt} {c0v : Value} {vs1 vs2 : List V} {cvs1 cvs2 : List Value} (hb : tellB a sn en c0 cs1 cs2 bg = true)
    (nd : [a, sn, en].Nodup) (k1 : sg.names.lookup sn = some .local) (k2 : sg.names.lookup en = some .local) (d1 : (sn == ("__debug__" : Str)) = false) (d2 : (sn == ("__classdict__" : Str)) = false) (d3 : (en == ("__debug__" : Str)) = false) (d4 : (en == ("__classdict__" : Str)) = false)
    (hc0 : sg.names.lookup c0 = some .globalImplicit) (hc1 : (c0 == ("__debug__" : Str)) = false) (hc2 : X.mg c0 = some c0v) (hi : sg.names.lookup ("isinstance" : Str) = some .globalImplicit) (hm : X.mg "isinstance" = none)
    (h1 : ∀ Y : Cx, Y.env.scope = sg → Y.mg = X.mg → CNs Y cs1 vs1 cvs1) (h2 : ∀ Y : Cx, Y.env.scope = sg → Y.mg = X.mg → CNs Y cs2 vs2 cvs2) : LamX.GivesTo X [a, sn, en] x sg g cdg bg a q (TTq X.K c0v cvs1 cvs2) := by
  intro f c' s H Q tl act hc h
  unfold tellB at hb
  split at hb
  · rename_i x' p1 p2 p3 c p4 e s1 p5 es1 p6 p7 s2 p8 es2 p9 p10 p11 p12 p13 p14 p15
    simp only [Bool.and_eq_true, decide_eq_true_eq] at hb
    obtain ⟨⟨⟨⟨⟨⟨rfl, rfl⟩, rfl⟩, rfl⟩, rfl⟩, b1⟩, b2⟩ := hb
    let Y : Cx := (cxOf C8.CX0 X.prog X.w X.K X.mg X.base [x', s2, e] x sg g cdg X.A X.stack s H C8.E0).nox
    have y1 := h1 Y rfl rfl
    have y2 := h2 Y rfl rfl
    have hgi : Gl Y "isinstance" := hi
    have tr := ps_try_as (X := Y) (x := c) (n := e) (c := c0v) (i := 2) (body := [.Expr (.Call (.Name x' p1) [] [] p2) p3]) (suite := [.Return (some (.BinOp (.Name s2 p8) .Add (.List es2 p9) p10)) p11]) (b₀ := .Assign [.Name s2 p5] (.List es1 p6) p7) (np := p4) (pos := p13) (pos' := p12)
      (Wout := fun _ _ _ _ => False)
      (tb := fun W D σ H => ∃ Ech : XK, (∀ cls d σ' H', σ'.length = 3 → Ech cls d H' → W cls d σ' H') ∧ σ[0]? = some (some (.ref f)) ∧ H c' = some (LamX.CodeO c' q) ∧ tl Ech H fun _ H' => D.nx σ H')
      (ts := fun a' cls d Dn σ H => ∃ D, cls = .ref D ∧ ExcC X.K D ∧ tSeq (tAsg (tLst (taI X.K D a' d 2 vs1)) (gName 1)) (tRet (tOp rCat (tVar 1) (tLst (taI X.K D a' d 2 vs2)))) Dn σ H)
      rfl rfl nd rfl k2 ⟨hc0, hc1, .inl hc2⟩ takes_none5 (fun W pn xe tk _ => ?_) (fun a' oe cls d pn hz hf => ?_)
    · refine ⟨_, pss_cons tr (pss_one (ps_ret (pe_lst pa_nil))), ?_⟩
      refine ⟨wIs X.K c0v cvs1 cvs2 Q, ?_, rfl, hc, ?_⟩
      · intro cls d σ' H' hlen w
        obtain ⟨D, bs1, bs2, rfl, C, ex, kk1, kk2, hl, hd, hq⟩ := w
        refine ⟨true, ex, fun _ a' ha' => ⟨D, rfl, C, ?_⟩, fun z => by cases z⟩
        have l1 : (bs1.map V.bl).length ≤ sizeLine := by rw [List.length_map, sizeLine_eq]; omega
        have l2 : (bs2.map V.bl).length ≤ sizeLine := by rw [List.length_map, sizeLine_eq]; omega
        match σ', hlen with
        | [z0, z1, z2], _ =>
        refine isi_ans rfl hd y1 kk1 ⟨l1, fun p1 np1 => ?_⟩
        refine ⟨_, rfl, ?_⟩
        refine isi_ans (σ := [z0, some (.ref p1), some (.ref a')]) rfl (fun dd e => ?_) y2 kk2 ⟨l2, fun p2 np2 => ?_⟩
        · obtain ⟨fs, ef⟩ := hd dd e
          exact ⟨fs, by rw [upd_ne (fun z => by rw [z] at ef; rw [np1] at ef; cases ef)]; exact ef⟩
        · refine ⟨p1, p2, _, _, rfl, rfl, by rw [upd_ne (ne_of_none upd_same np2)]; exact upd_same, upd_same, ?_, fun p np => ?_⟩
          · rw [List.length_map, List.length_map, sizeLine_eq]; omega
          · exact hq p1 p2 p np1 np2 np
      · have e : (fun (_ : V) H' => ∀ p, H' p = none → Q (.ref p) (upd H' p (.lst []))) = fun (_ : V) H' => (tRet (tLst tNil)) { nx := fun x H' => Q V.non H', rt := Q } (L2.start [x', s2, e] [V.ref f]) H' := by
          funext v H'
          apply propext
          constructor
          · exact fun z => ⟨by simp, z⟩
          · exact fun z => z.2
        show tl _ H _
        have h' : tl (wIs X.K c0v cvs1 cvs2 Q) H (fun (_ : V) H' => ∀ p, H' p = none → Q (.ref p) (upd H' p (.lst []))) := h
        rw [e] at h'
        exact h'
    · refine pss_one ⟨fun pins s' σ H' D I h' => ?_⟩
      obtain ⟨Ech, hW, z1, z2, z3⟩ := h'
      have tk2 : Takes (Y.tr pn xe) fun cls d _ H'' => Ech cls d H'' := fun u s2 z => tk u s2 (by
        obtain ⟨a2, B2, sI, pins2, σ2, H2, cls, d, e1, I2, e3, e4, e5, e6, e7, e8, e9⟩ := z
        exact ⟨a2, B2, sI, pins2, σ2, H2, cls, d, e1, I2, e3, e4, e5, e6, e7, e8, hW cls d σ2 H2 I2.len e9⟩)
      have hp := act (fun cls d _ H'' => Ech cls d H'') pn xe Ech p1 p2 tk2 (fun cls d σ' H'' z => z)
      have hq := ps_expr (pos := p3) hp
      exact hq.run pins s' σ H' D I ⟨z1, z2, z3⟩
    · refine ⟨fun pins s' σ H' Dn I h' => ?_⟩
      obtain ⟨D, rfl, C, h'⟩ := h'
      have hv : Vis Y.env.scope e := .inl k2
      have p1 := pa_isi (X := Y) (a := a') (pn := pn) (i := 2) C hz hf rfl hv d3 d4 hgi hm b1 y1
      have p2 := pa_isi (X := Y) (a := a') (pn := pn) (i := 2) C hz hf rfl hv d3 d4 hgi hm b2 y2
      have pv : PE (Y.suite a' ((a', oe) :: pn)) (.Name s2 p8) (tVar 1) := pe_var rfl (.inl k1) d1 d2
      exact (pss_cons (ps_set nd rfl (.inl k1) (pe_lst p1) (by rfl) (.inr k1)) (pss_one (ps_ret (pe_op op_cat pv (pe_lst p2))))).run pins s' σ H' Dn I h'
  · cases hb
end MiniL

namespace Mini
open PySem L2

inductive D where
  | non | bl (b : Bool) | int (i : Int) | str (x : Str) | ty (n : String)
  | tup (ts : List D) | lst (ts : List D) | own (ts : List D) | frz (ts : List D)
  | cell (k : Nat) | tab (ks : List Str) (ts : List D)

abbrev Dl := List (List D)
abbrev Sig := List (Option D)

def NT (H : Hp) (a : Addr) : Prop := ∀ o, H a = some o → ∃ ps, o = .tbl ps
def Ext (C : List Addr) (H H' : Hp) : Prop := ∀ a o, H a = some o → a ∉ C → (∀ ps, o ≠ .tbl ps) → H' a = some o
structure Le (C : List Addr) (H : Hp) (C' : List Addr) (H' : Hp) : Prop where
  pre : ∃ more, C' = C ++ more
  new : ∀ a, a ∈ C' → a ∉ C → NT H a
  ext : Ext C H H'
theorem NT.of_none {H : Hp} {a : Addr} (h : H a = none) : NT H a := fun o e => by rw [h] at e; cases e
theorem NT.not {H : Hp} {a : Addr} {o : HO} (n : NT H a) (h : H a = some o) (hn : ∀ ps, o ≠ .tbl ps) : False := by
  obtain ⟨ps, e⟩ := n o h
  exact hn ps e
theorem NT.back {C : List Addr} {H H' : Hp} {a : Addr} (e : Ext C H H') (n : NT H' a) (ha : a ∉ C) : NT H a := fun o h => by
  apply Classical.byContradiction
  intro hn
  have hn' : ∀ ps, o ≠ .tbl ps := fun ps z => hn ⟨ps, z⟩
  exact n.not (e a o h ha hn') hn'
theorem Ext.refl (C : List Addr) (H : Hp) : Ext C H H := fun _ _ h _ _ => h
theorem Le.refl (C : List Addr) (H : Hp) : Le C H C H := ⟨⟨[], by simp⟩, fun a h n => absurd h n, Ext.refl C H⟩
theorem Le.mem {C C' : List Addr} {H H' : Hp} (l : Le C H C' H') {a : Addr} (h : a ∈ C) : a ∈ C' := by
  obtain ⟨m, e⟩ := l.pre
  rw [e]; exact List.mem_append_left _ h
theorem Le.get {C C' : List Addr} {H H' : Hp} (l : Le C H C' H') {k : Nat} {a : Addr} (h : C[k]? = some a) : C'[k]? = some a := by
  obtain ⟨m, e⟩ := l.pre
  have hk := (List.getElem?_eq_some_iff.mp h).1
  rw [e, List.getElem?_append_left hk]; exact h
theorem Le.notin {C C' : List Addr} {H H' : Hp} (l : Le C H C' H') {a : Addr} {o : HO} (h : H a = some o) (hn : ∀ ps, o ≠ .tbl ps) (ha : a ∉ C) : a ∉ C' := fun z =>
  (l.new a z ha).not h hn
theorem Le.trans {C C1 C2 : List Addr} {H H1 H2 : Hp} (l : Le C H C1 H1) (m : Le C1 H1 C2 H2) : Le C H C2 H2 := by
  refine ⟨?_, fun a h n => ?_, fun a o h n hn => ?_⟩
  · obtain ⟨x, e⟩ := l.pre
    obtain ⟨y, e'⟩ := m.pre
    exact ⟨x ++ y, by rw [e', e, List.append_assoc]⟩
  · by_cases h1 : a ∈ C1
    · exact l.new a h1 n
    · exact (m.new a h h1).back l.ext n
  · exact m.ext a o (l.ext a o h n hn) (l.notin h hn n) hn

section
def FzK (K : PySem.W.Frag) (C : List Addr) (M : Addr → Prop) (H : Hp) (a : Addr) (vs : List V) : Prop := (∃ o, H a = some (.frz o (.lst vs))) ∨ (¬ M a ∧ a ∉ C ∧ H a = some (.lst vs)) ∨
  ∃ (o : Obj) (its : Array Value) (n : Nat), K.lookup a = some o ∧ o.cls = .type "list" ∧ o.dict = none ∧ o.data = .seq its n ∧ its.size ≤ sizeLine ∧ Vals vs its.toList
theorem FzK.sq {K : PySem.W.Frag} {C : List Addr} {M : Addr → Prop} {H : Hp} {a : Addr} {vs : List V} (h : FzK K C M H a vs) : SqL K H a vs := h.elim (fun h => .inl (.inr h)) fun h => h.elim (fun h => .inl (.inl h.2.2)) .inr
def tabK (ks : List Str) (vs : List V) : List (Key × V) := (ks.map Sum.inr).zip vs
variable (K : PySem.W.Frag) (C : List Addr) (M : Addr → Prop) (H : Hp)
mutual
def Rep : D → V → Prop
  | .non, v => v = .non
  | .bl b, v => v = .bl b
  | .int i, v => v = .int i
  | .str x, v => v = .str x
  | .ty n, v => v = .ty n
  | .tup ts, v => ∃ a vs, v = .ref a ∧ SqT K H a vs ∧ RepL ts vs
  | .lst ts, v => ∃ a vs, v = .ref a ∧ ¬ M a ∧ a ∉ C ∧ H a = some (.lst vs) ∧ RepL ts vs
  | .own _, _ => False
  | .frz ts, v => ∃ a vs, v = .ref a ∧ FzK K C M H a vs ∧ RepL ts vs
  | .cell k, v => ∃ a, v = .ref a ∧ C[k]? = some a
  | .tab ks ts, v => ∃ a vs, v = .ref a ∧ ¬ M a ∧ a ∉ C ∧ H a = some (.dK (tabK ks vs)) ∧ RepL ts vs
def RepL : List D → List V → Prop
  | [], vs => vs = []
  | t :: ts, vs => ∃ v r, vs = v :: r ∧ Rep t v ∧ RepL ts r
end
end

section
variable {K : PySem.W.Frag} {C C' : List Addr} {M M' : Addr → Prop} {H H' : Hp}
theorem RepL.length : ∀ {ts : List D} {vs : List V}, RepL K C M H ts vs → vs.length = ts.length
  | [], vs, h => by unfold RepL at h; rw [h]; rfl
  | t :: ts, vs, h => by
    unfold RepL at h
    obtain ⟨v, r, e, _, h2⟩ := h
    rw [e, List.length_cons, List.length_cons, RepL.length h2]
theorem RepL.get : ∀ {ts : List D} {vs : List V} {i : Nat} {t : D}, RepL K C M H ts vs → ts[i]? = some t → ∃ v, vs[i]? = some v ∧ Rep K C M H t v
  | t :: ts, vs, 0, t', h, e => by
    unfold RepL at h
    obtain ⟨v, r, rfl, h1, h2⟩ := h
    simp at e; subst e
    exact ⟨v, by simp, h1⟩
  | t :: ts, vs, i + 1, t', h, e => by
    unfold RepL at h
    obtain ⟨v, r, rfl, h1, h2⟩ := h
    obtain ⟨w, q1, q2⟩ := RepL.get (i := i) (t := t') h2 (by simpa using e)
    exact ⟨w, by simpa using q1, q2⟩
theorem repL_nil : RepL K C M H [] [] := by unfold RepL; rfl
theorem repL_cons {t : D} {ts : List D} {v : V} {vs : List V} (h : Rep K C M H t v) (h2 : RepL K C M H ts vs) : RepL K C M H (t :: ts) (v :: vs) := by
  unfold RepL; exact ⟨v, vs, rfl, h, h2⟩
theorem RepL.append : ∀ {ts us : List D} {vs ws : List V}, RepL K C M H ts vs → RepL K C M H us ws → RepL K C M H (ts ++ us) (vs ++ ws)
  | [], us, vs, ws, h, g => by unfold RepL at h; rw [h]; exact g
  | t :: ts, us, vs, ws, h, g => by
    unfold RepL at h
    obtain ⟨v, r, rfl, h1, h2⟩ := h
    exact repL_cons h1 (RepL.append h2 g)
theorem RepL.one {t : D} {v : V} (h : Rep K C M H t v) : RepL K C M H [t] [v] := repL_cons h repL_nil
theorem RepL.set : ∀ {ts : List D} {vs : List V} {t : D} {v : V} (i : Nat), RepL K C M H ts vs → Rep K C M H t v → RepL K C M H (ts.set i t) (vs.set i v)
  | [], vs, t, v, i, h, g => by unfold RepL at h; rw [h]; exact repL_nil
  | a :: ts, vs, t, v, 0, h, g => by
    unfold RepL at h
    obtain ⟨w, r, rfl, h1, h2⟩ := h
    exact repL_cons g h2
  | a :: ts, vs, t, v, i + 1, h, g => by
    unfold RepL at h
    obtain ⟨w, r, rfl, h1, h2⟩ := h
    exact repL_cons h1 (RepL.set i h2 g)
theorem RepL.take : ∀ {ts : List D} {vs : List V} (n : Nat), RepL K C M H ts vs → RepL K C M H (ts.take n) (vs.take n)
  | _, _, 0, _ => by simpa using repL_nil
  | [], vs, n + 1, h => by unfold RepL at h; rw [h]; simpa using repL_nil
  | t :: ts, vs, n + 1, h => by
    unfold RepL at h
    obtain ⟨w, r, rfl, h1, h2⟩ := h
    exact repL_cons h1 (RepL.take n h2)
theorem RepL.drop : ∀ {ts : List D} {vs : List V} (n : Nat), RepL K C M H ts vs → RepL K C M H (ts.drop n) (vs.drop n)
  | _, _, 0, h => by simpa using h
  | [], vs, n + 1, h => by unfold RepL at h; rw [h]; simpa using repL_nil
  | t :: ts, vs, n + 1, h => by
    unfold RepL at h
    obtain ⟨w, r, rfl, h1, h2⟩ := h
    simpa using RepL.drop n h2
theorem RepL.reverse : ∀ {ts : List D} {vs : List V}, RepL K C M H ts vs → RepL K C M H ts.reverse vs.reverse
  | [], vs, h => by unfold RepL at h; rw [h]; exact repL_nil
  | t :: ts, vs, h => by
    unfold RepL at h
    obtain ⟨w, r, rfl, h1, h2⟩ := h
    rw [List.reverse_cons, List.reverse_cons]
    exact (RepL.reverse h2).append (.one h1)
theorem RepL.dropLast {ts : List D} {vs : List V} (h : RepL K C M H ts vs) : RepL K C M H ts.dropLast vs.dropLast := by
  rw [List.dropLast_eq_take, List.dropLast_eq_take, h.length]
  exact h.take _

mutual
theorem Rep.sub (hm : ∀ a, M' a → M a) : ∀ (t : D) (v : V), Rep K C M H t v → Rep K C M' H t v
  | .non, v, h => by unfold Rep at h ⊢; exact h
  | .bl b, v, h => by unfold Rep at h ⊢; exact h
  | .int i, v, h => by unfold Rep at h ⊢; exact h
  | .str x, v, h => by unfold Rep at h ⊢; exact h
  | .ty x, v, h => by unfold Rep at h ⊢; exact h
  | .tup ts, v, h => by
    unfold Rep at h ⊢
    obtain ⟨a, vs, e, s, r⟩ := h
    exact ⟨a, vs, e, s, RepL.sub hm ts vs r⟩
  | .lst ts, v, h => by
    unfold Rep at h ⊢
    obtain ⟨a, vs, e, n, nc, s, r⟩ := h
    exact ⟨a, vs, e, fun z => n (hm a z), nc, s, RepL.sub hm ts vs r⟩
  | .own ts, v, h => by unfold Rep at h; exact h.elim
  | .frz ts, v, h => by
    unfold Rep at h ⊢
    obtain ⟨a, vs, e, s, r⟩ := h
    refine ⟨a, vs, e, ?_, RepL.sub hm ts vs r⟩
    rcases s with s | ⟨n, nc, s⟩ | s
    · exact .inl s
    · exact .inr (.inl ⟨fun z => n (hm a z), nc, s⟩)
    · exact .inr (.inr s)
  | .cell k, v, h => by unfold Rep at h ⊢; exact h
  | .tab ks ts, v, h => by
    unfold Rep at h ⊢
    obtain ⟨a, vs, e, n, nc, s, r⟩ := h
    exact ⟨a, vs, e, fun z => n (hm a z), nc, s, RepL.sub hm ts vs r⟩
theorem RepL.sub (hm : ∀ a, M' a → M a) : ∀ (ts : List D) (vs : List V), RepL K C M H ts vs → RepL K C M' H ts vs
  | [], vs, h => by unfold RepL at h ⊢; exact h
  | t :: ts, vs, h => by
    unfold RepL at h ⊢
    obtain ⟨v, r, e, h1, h2⟩ := h
    exact ⟨v, r, e, Rep.sub hm t v h1, RepL.sub hm ts r h2⟩
end
def MO (o : HO) : Prop := (∃ xs, o = .lst xs) ∨ ∃ kvs, o = .dK kvs
theorem MO.lst {xs : List V} : MO (.lst xs) := .inl ⟨xs, rfl⟩
theorem MO.dK {kvs : List (Key × V)} : MO (.dK kvs) := .inr ⟨kvs, rfl⟩
theorem MO.nt {o : HO} (h : MO o) : ∀ ps, o ≠ .tbl ps := fun ps z => by
  rcases h with ⟨xs, e⟩ | ⟨kvs, e⟩ <;> (rw [e] at z; cases z)
def CO (o : HO) : Prop := (∃ xs, o = .lst xs) ∨ (∃ c d fs, o = .ins c d fs) ∨ (∃ d xs, o = DM.dO d xs) ∨ ∃ kvs, o = .dK kvs
theorem CO.lst {xs : List V} : CO (.lst xs) := .inl ⟨xs, rfl⟩
theorem CO.ins {c d : Addr} {fs : List (Str × V)} : CO (.ins c d fs) := .inr (.inl ⟨c, d, fs, rfl⟩)
theorem CO.ext {d : Addr} {xs : DM.Ens} : CO (DM.dO d xs) := .inr (.inr (.inl ⟨d, xs, rfl⟩))
theorem CO.dK {kvs : List (Key × V)} : CO (.dK kvs) := .inr (.inr (.inr ⟨kvs, rfl⟩))
theorem CO.nt {o : HO} (h : CO o) : ∀ ps, o ≠ .tbl ps := fun ps z => by
  rcases h with ⟨xs, e⟩ | ⟨c, d, fs, e⟩ | ⟨_, _, e⟩ | ⟨_, e⟩ <;> (rw [e] at z; cases z)
def CellH (C : List Addr) (H : Hp) : Prop := ∀ a, a ∈ C → ∃ o, H a = some o ∧ CO o
theorem CellH.no {C : List Addr} {H : Hp} (c : CellH C H) {a : Addr} {o : HO} (z : a ∈ C) (e : H a = some o) (n : ¬ CO o) : False := by
  obtain ⟨u, q, h⟩ := c a z
  rw [e] at q
  cases q
  exact n h
theorem CO.tup {xs : List V} : ¬ CO (.tup xs) := fun h => by rcases h with ⟨_, e⟩ | ⟨_, _, _, e⟩ | ⟨_, _, e⟩ | ⟨_, e⟩ <;> cases e
theorem CO.frz {o : Obj} {u : HO} : ¬ CO (.frz o u) := fun h => by rcases h with ⟨_, e⟩ | ⟨_, _, _, e⟩ | ⟨_, _, e⟩ | ⟨_, e⟩ <;> cases e
mutual
theorem Rep.step (c : CellH C H) (l : Le C H C' H') (hm : ∀ a, M' a → M a ∨ NT H a) : ∀ (t : D) (v : V), Rep K C M H t v → Rep K C' M' H' t v
  | .non, v, h => by unfold Rep at h ⊢; exact h
  | .bl b, v, h => by unfold Rep at h ⊢; exact h
  | .int i, v, h => by unfold Rep at h ⊢; exact h
  | .str x, v, h => by unfold Rep at h ⊢; exact h
  | .ty n, v, h => by unfold Rep at h ⊢; exact h
  | .tup ts, v, h => by
    unfold Rep at h ⊢
    obtain ⟨a, vs, e, s, r⟩ := h
    refine ⟨a, vs, e, ?_, RepL.step c l hm ts vs r⟩
    rcases s with (s | ⟨o, s⟩) | s
    · exact .inl (.inl (l.ext a _ s (fun z => c.no z s CO.tup) (fun ps z => by cases z)))
    · exact .inl (.inr ⟨o, l.ext a _ s (fun z => c.no z s CO.frz) (fun ps z => by cases z)⟩)
    · exact .inr s
  | .lst ts, v, h => by
    unfold Rep at h ⊢
    obtain ⟨a, vs, e, n, nc, s, r⟩ := h
    refine ⟨a, vs, e, fun z => ?_, l.notin s (fun ps z => by cases z) nc, l.ext a _ s nc (fun ps z => by cases z), RepL.step c l hm ts vs r⟩
    rcases hm a z with z | z
    · exact n z
    · exact z.not s (fun ps z => by cases z)
  | .own ts, v, h => by
    unfold Rep at h; exact h.elim
  | .frz ts, v, h => by
    unfold Rep at h ⊢
    obtain ⟨a, vs, e, s, r⟩ := h
    refine ⟨a, vs, e, ?_, RepL.step c l hm ts vs r⟩
    rcases s with ⟨o, s⟩ | ⟨n, nc, s⟩ | s
    · exact .inl ⟨o, l.ext a _ s (fun z => c.no z s CO.frz) (fun ps z => by cases z)⟩
    · refine .inr (.inl ⟨fun z => ?_, l.notin s (fun ps z => by cases z) nc, l.ext a _ s nc (fun ps z => by cases z)⟩)
      rcases hm a z with z | z
      · exact n z
      · exact z.not s (fun ps z => by cases z)
    · exact .inr (.inr s)
  | .cell k, v, h => by
    unfold Rep at h ⊢
    obtain ⟨a, e, q⟩ := h
    exact ⟨a, e, l.get q⟩
  | .tab ks ts, v, h => by
    unfold Rep at h ⊢
    obtain ⟨a, vs, e, n, nc, s, r⟩ := h
    refine ⟨a, vs, e, fun z => ?_, l.notin s (fun ps z => by cases z) nc, l.ext a _ s nc (fun ps z => by cases z), RepL.step c l hm ts vs r⟩
    rcases hm a z with z | z
    · exact n z
    · exact z.not s (fun ps z => by cases z)
theorem RepL.step (c : CellH C H) (l : Le C H C' H') (hm : ∀ a, M' a → M a ∨ NT H a) : ∀ (ts : List D) (vs : List V), RepL K C M H ts vs → RepL K C' M' H' ts vs
  | [], vs, h => by unfold RepL at h ⊢; exact h
  | t :: ts, vs, h => by
    unfold RepL at h ⊢
    obtain ⟨v, r, e, h1, h2⟩ := h
    exact ⟨v, r, e, Rep.step c l hm t v h1, RepL.step c l hm ts r h2⟩
end
end
def RepS (K : PySem.W.Frag) (C : List Addr) (M : Addr → Prop) (H : Hp) : D → V → Prop
  | .own ts, v => ∃ a vs, v = .ref a ∧ a ∉ C ∧ H a = some (.lst vs) ∧ RepL K C M H ts vs
  | d, v => Rep K C M H d v
def RSL (K : PySem.W.Frag) (C : List Addr) (M : Addr → Prop) (H : Hp) : List D → List V → Prop
  | [], vs => vs = []
  | t :: ts, vs => ∃ v r, vs = v :: r ∧ RepS K C M H t v ∧ RSL K C M H ts r
section
variable {K : PySem.W.Frag} {C C' : List Addr} {M M' : Addr → Prop} {H H' : Hp}
theorem RepS.step (c : CellH C H) (l : Le C H C' H') (hm : ∀ a, M' a → M a ∨ NT H a) {t : D} {v : V} (h : RepS K C M H t v) : RepS K C' M' H' t v := by
  cases t
  case own ts =>
    obtain ⟨a, vs, e, nc, s, r⟩ := h
    exact ⟨a, vs, e, l.notin s (fun ps z => by cases z) nc, l.ext a _ s nc (fun ps z => by cases z), RepL.step c l hm ts vs r⟩
  all_goals exact Rep.step c l hm _ _ h
theorem RSL.step (c : CellH C H) (l : Le C H C' H') (hm : ∀ a, M' a → M a ∨ NT H a) : ∀ {ts : List D} {vs : List V}, RSL K C M H ts vs → RSL K C' M' H' ts vs
  | [], vs, h => h
  | t :: ts, vs, ⟨v, r, e, h1, h2⟩ => ⟨v, r, e, h1.step c l hm, RSL.step c l hm h2⟩
end
def RepF (K : PySem.W.Frag) (C : List Addr) (M : Addr → Prop) (H : Hp) : List D → List (Str × V) → Prop
  | [], fv => fv = []
  | d0 :: r0, fv => match d0, r0 with
    | .str f, d :: r => ∃ v w, fv = (f, v) :: w ∧ Rep K C M H d v ∧ RepF K C M H r w
    | _, _ => False
def insOf : List D → Option (String × List D)
  | .ty n :: r => some (n, r)
  | _ => none
def clsA (K : PySem.W.Frag) (n : String) : Addr := He.ga K (Str.ofString n)
def DicX : List D → List V → DM.Ens → Prop
  | [], vs, xs => vs = [] ∧ xs = []
  | d0 :: r0, vs, xs => match r0 with
    | [] => False
    | _ :: r => ∃ ks b v u vs' xs', d0 = .tup (ks.map .int) ∧ vs = .ref b :: v :: vs' ∧ xs = (ks, b, u) :: xs' ∧ RelV v u ∧ DicX r vs' xs'
def CellR (K : PySem.W.Frag) (C : List Addr) (M : Addr → Prop) (H : Hp) (a : Addr) (ts : List D) : Prop := match insOf ts with
  | none => ∃ vs, H a = some (.lst vs) ∧ RepL K C M H ts vs
  | some (n, r) => if n = "dict" then ∃ vs xs, H a = some (DM.dO a xs) ∧ RepL K C M H r vs ∧ DicX r vs xs ∧ (xs.map (·.1)).Nodup else ∃ dx fv, H a = some (.ins (clsA K n) dx fv) ∧ RepF K C M H r fv
section
variable {K : PySem.W.Frag} {C C' : List Addr} {M M' : Addr → Prop} {H H' : Hp}
theorem RepF.map (h : ∀ t v, Rep K C M H t v → Rep K C' M' H' t v) : ∀ (ts : List D) (fv : List (Str × V)), RepF K C M H ts fv → RepF K C' M' H' ts fv
  | [], fv, q => q
  | [d0], fv, q => by
    cases d0 <;> exact q
  | d0 :: d :: r, fv, q => by
    cases d0 <;> first | exact q.elim | skip
    case str f =>
    obtain ⟨v, w, e, h1, h2⟩ := q
    exact ⟨v, w, e, h d v h1, RepF.map h r w h2⟩
theorem CellR.map {a : Addr} {ts : List D} (r : CellR K C M H a ts) (ha : ∀ o, CO o → H a = some o → H' a = some o) (hL : ∀ us vs, RepL K C M H us vs → RepL K C' M' H' us vs) : CellR K C' M' H' a ts := by
  unfold CellR at r ⊢
  split at r
  · rename_i e
    obtain ⟨vs, q, r⟩ := r
    exact ⟨vs, ha _ CO.lst q, hL _ _ r⟩
  · rename_i n us e
    by_cases hn : n = "dict"
    · rw [if_pos hn] at r ⊢
      obtain ⟨vs, xs, q, r, x⟩ := r
      exact ⟨vs, xs, ha _ CO.ext q, hL _ _ r, x⟩
    rw [if_neg hn] at r ⊢
    obtain ⟨dx, fv, q, r⟩ := r
    refine ⟨dx, fv, ha _ CO.ins q, RepF.map (fun t v h => ?_) _ _ r⟩
    have := hL [t] [v] (.one h)
    unfold RepL at this
    obtain ⟨w, r, e, h1, _⟩ := this
    cases e
    exact h1
theorem CellR.co {a : Addr} {ts : List D} (r : CellR K C M H a ts) : ∃ o, H a = some o ∧ CO o := by
  unfold CellR at r
  split at r
  · obtain ⟨vs, q, _⟩ := r
    exact ⟨_, q, CO.lst⟩
  · split at r
    · obtain ⟨vs, xs, q, _⟩ := r
      exact ⟨_, q, CO.ext⟩
    · obtain ⟨dx, fv, q, _⟩ := r
      exact ⟨_, q, CO.ins⟩
theorem CellR.lst {a : Addr} {ts : List D} (r : CellR K C M H a ts) (e : insOf ts = none) : ∃ vs, H a = some (.lst vs) ∧ RepL K C M H ts vs := by
  unfold CellR at r
  rw [e] at r
  exact r
theorem CellR.mk {a : Addr} {ts : List D} {vs : List V} (e : insOf ts = none) (h : H a = some (.lst vs)) (r : RepL K C M H ts vs) : CellR K C M H a ts := by
  unfold CellR
  rw [e]
  exact ⟨vs, h, r⟩
theorem CellR.ins {a : Addr} {n : String} {ts : List D} (hn : n ≠ "dict") (r : CellR K C M H a (.ty n :: ts)) : ∃ dx fv, H a = some (.ins (clsA K n) dx fv) ∧ RepF K C M H ts fv := by
  unfold CellR at r
  simp only [insOf] at r
  rw [if_neg hn] at r
  exact r
theorem CellR.mkIns {a dx : Addr} {n : String} {ts : List D} {fv : List (Str × V)} (hn : n ≠ "dict") (h : H a = some (.ins (clsA K n) dx fv)) (r : RepF K C M H ts fv) : CellR K C M H a (.ty n :: ts) := by
  unfold CellR
  simp only [insOf]
  rw [if_neg hn]
  exact ⟨dx, fv, h, r⟩
theorem CellR.dic {a : Addr} {ts : List D} (r : CellR K C M H a (.ty "dict" :: ts)) : ∃ vs xs, H a = some (DM.dO a xs) ∧ RepL K C M H ts vs ∧ DicX ts vs xs ∧ (xs.map (·.1)).Nodup := by
  unfold CellR at r
  simp only [insOf, if_true] at r
  exact r
theorem CellR.mkDic {a : Addr} {ts : List D} {vs : List V} {xs : DM.Ens} (h : H a = some (DM.dO a xs)) (r : RepL K C M H ts vs) (x : DicX ts vs xs) (n : (xs.map (·.1)).Nodup) : CellR K C M H a (.ty "dict" :: ts) := by
  unfold CellR
  simp only [insOf, if_true]
  exact ⟨vs, xs, h, r, x, n⟩
end
end Mini

namespace Mini
open PySem L2

inductive R (α : Type) where
  | ok (a : α) (d : Dl) | ex (c : Str) (p : List D) (d : Dl) | bad
def R.bind {α β : Type} (x : R α) (f : α → Dl → R β) : R β := match x with
  | .ok a d => f a d
  | .ex c p d => .ex c p d
  | .bad => .bad
def R.noex {α : Type} (x : R α) : R α := match x with
  | .ok a d => .ok a d
  | _ => .bad
def R.of {α : Type} (o : Option α) (d : Dl) : R α := match o with
  | some a => .ok a d
  | none => .bad

inductive G where
  | name (i : Nat) | tup (is : List Nat) | nst (is : List Nat) (i : Nat)
inductive IK where
  | seq | rng1 | rng2 | rng3 | zip | enum | rev
inductive Blt where
  | abs | len | int | tuple | list | max2 | min2 | sum | str | isi | bool | max3 | maxl | minl | minr | sorted
inductive E where
  | var (i : Nat) | int (i : Int) | bl (b : Bool) | non | str (s : Str) | ty (n : String) | glob (g : Nat)
  | bin (o : Operator) (a b : E) | neg (a : E)
  | cmp (o : CmpOp) (a b : E) | chain (o o' : CmpOp) (a b c : E)
  | and (a b : E) | or (a b : E) | not (a : E) | ite (c a b : E)
  | nil | cons (a b : E) | tup (a : E) | lst (a : E)
  | idx (a i : E) | slc (a lo hi : E) | np | cnt (a b : E) | srt (k : Bool) (a : E)
  | call (f : Nat) (a : E) | blt (b : Blt) (a : E)
  | lc (vs : List Nat) (g : G) (k : IK) (it c e : E)
  | gx (b : Bool) (vs : List Nat) (g : G) (k : IK) (it c e : E) | gsm (vs : List Nat) (g : G) (k : IK) (it c e : E)
  | ixm (a b : E) | lrng (a : E) | dnew | din (n : Bool) (a d : E) | dget (d a : E) | dgeto (d a x : E)
  | fld (c : String) (f : Str) (a : E) | mcl (c : String) (m : Str) (f : Nat) (o a : E) | mk (c : String) (f : Nat) (a : E)
  | newc (a : E) | scope (a : E) | lend (i : Nat) (a : E) | told (hs : List (Str × Str)) (a : E)
  | tab1 (s : Str) (i : Nat) | sel (fs : List (Str × Nat)) (i : Nat) (a : E)
  | fdv (a b : E)
  | uni (vs : List Nat) (g : G) (k : IK) (it c : E) (vs1 : List Nat) (g1 : G) (k1 : IK) (it1 c1 e : E)
inductive S where
  | skip | seq (a b : S) | pass | expr (e : E)
  | asg (g : G) (e : E) | asgO (i : Nat) (e : E) | par (is : List (Nat × Bool)) (a : E) | asgT (is : List (Nat × Bool)) (a : E)
  | setx (o ix e : E) | aug (i : Nat) (o : Operator) (e : E)
  | setf (c : String) (i : Nat) (f : Str) (e : E) | augf (c : String) (i : Nat) (f : Str) (o : Operator) (e : E)
  | app (i : Nat) (e : E) | ext (i : Nat) (e : E) | pop (i : Nat)
  | ite (c : E) (a b : S) | whl (c : E) (b : S) | for (g : G) (k : IK) (it : E) (b : S)
  | ret (e : E) | retN | rais (c : Str) | raisP (c : Str) (e : E) | brk | cont
  | frz (i : Nat) (s : S)
  | dsetd (i : Nat) (k e : E) | dput (i : Nat) (k e : E)
  | augx (i : Nat) (ix : E) (o : Operator) (e : E) | tryF (i : Nat) (e : E) (c : Str)
  | raw | lams (w k : Nat) (lcs : List Str) (rhs es : E)

def isOwn : D → Bool
  | .own _ => true
  | _ => false
def demote : D → D
  | .own ts => .lst ts
  | d => d
mutual
def noLst : D → Bool
  | .lst _ => false
  | .own _ => false
  | .frz _ => false
  | .tab _ _ => false
  | .tup ts => noLstL ts
  | _ => true
def noLstL : List D → Bool
  | [] => true
  | t :: ts => noLst t && noLstL ts
end
mutual
def difD (ns : List Nat) : D → Bool
  | .lst ts => !ns.contains ts.length && difL ns ts
  | .own _ => false
  | .frz _ => false
  | .tab _ _ => false
  | .tup ts => difL ns ts
  | _ => true
def difL (ns : List Nat) : List D → Bool
  | [] => true
  | t :: ts => difD ns t && difL ns ts
end
def ownLen : D → Option Nat
  | .own ts => some ts.length
  | _ => none
mutual
def noCell : D → Bool
  | .cell _ => false
  | .tup ts => noCellL ts
  | .lst ts => noCellL ts
  | .own ts => noCellL ts
  | .frz ts => noCellL ts
  | .tab _ ts => noCellL ts
  | _ => true
def noCellL : List D → Bool
  | [] => true
  | t :: ts => noCell t && noCellL ts
end
def line : Nat := 16777216
def big : Nat := 2 ^ 8990
def truthD : D → Option Bool
  | .non => some false
  | .bl b => some b
  | .int i => some (i != 0)
  | .str s => if s.length ≤ line then some ((s.length : Int) != 0) else none
  | .tup ts => some (!ts.isEmpty)
  | .lst ts => some (!ts.isEmpty)
  | .own ts => some (!ts.isEmpty)
  | .frz ts => some (!ts.isEmpty)
  | _ => none
def small (i : Int) : Bool := decide (-(2 ^ 64) < i) && decide (i < 2 ^ 64)
def mulOk (i j : Int) : Bool := small i || small j || decide (i.natAbs.log2 + j.natAbs.log2 < 134000000)
def divOk (j : Int) : Bool := decide (j ≠ 0) && decide (j.natAbs < big)
def powOk (i j : Int) : Bool := decide (0 ≤ j) && decide (j ≤ 1000000) && small i
def repOk (n : Nat) (j : Int) : Bool := decide (-(2 ^ 63) ≤ j) && decide (j < 2 ^ 63) && decide (n * j.toNat ≤ line)
def repZ (x : Str) (n : Nat) : Str := ⟨List.foldl (fun a b => a ++ b) #[] (List.replicate n x.cps)⟩
def mlst : D → Option (List D)
  | .lst ts => some ts
  | .own ts => some ts
  | _ => none
def binD : Operator → D → D → Option D
  | .Add, .int i, .int j => some (.int (i + j))
  | .Add, .str i, .str j => if i.length + j.length ≤ line then some (.str (i ++ j)) else none
  | .Add, .tup a, .tup b => if a.length + b.length ≤ line then some (.tup (a ++ b)) else none
  | .Add, .lst a, .lst b => if a.length + b.length ≤ line then some (.lst (a ++ b)) else none
  | .Add, .own a, .lst b => if a.length + b.length ≤ line then some (.lst (a ++ b)) else none
  | .Add, .lst a, .own b => if a.length + b.length ≤ line then some (.lst (a ++ b)) else none
  | .Add, .own a, .own b => if a.length + b.length ≤ line then some (.lst (a ++ b)) else none
  | .Sub, .int i, .int j => some (.int (i - j))
  | .Sub, .bl a, .bl b => some (.int ((if a = true then (1 : Int) else 0) - (if b = true then (1 : Int) else 0)))
  | .Mult, .int i, .int j => if mulOk i j then some (.int (i * j)) else none
  | .Mult, .tup a, .int j => if !a.isEmpty && decide (-1000 ≤ j) && decide (j ≤ 1000) && decide (a.length ≤ 1000) then some (.tup (List.replicate j.toNat a).flatten) else none
  | .Mult, .str a, .int j => if decide (2 ≤ j) && decide (j ≤ 1000) && decide (0 < a.length) && decide (a.length ≤ 1000) then some (.str (repZ a j.toNat)) else if decide (j = 1) then some (.str a) else none
  | .Mult, .lst a, .int j => if repOk a.length j then some (.lst (List.replicate j.toNat a).flatten) else none
  | .FloorDiv, .int i, .int j => if divOk j then some (.int (i.fdiv j)) else none
  | .Mod, .int i, .int j => if j = 0 then none else some (.int (i.fmod j))
  | .Pow, .int i, .int j => if powOk i j then some (.int (i ^ j.toNat)) else none
  | _, _, _ => none
def augD : Operator → D → D → Option D
  | .Add, .int i, .int j => some (.int (i + j))
  | .Add, .str i, .str j => if i.length + j.length ≤ line then some (.str (i ++ j)) else none
  | .Sub, .int i, .int j => some (.int (i - j))
  | .Mult, .int i, .int j => if mulOk i j then some (.int (i * j)) else none
  | .FloorDiv, .int i, .int j => if divOk j then some (.int (i.fdiv j)) else none
  | .Mod, .int i, .int j => if j = 0 then none else some (.int (i.fmod j))
  | _, _, _ => none
def fdvD : D → D → Option D
  | .int i, .int j => if j = 0 then none else some (.int (i.fdiv j))
  | _, _ => none
def negD : D → Option D
  | .int i => some (.int (-i))
  | _ => none
mutual
def dat : D → Option PyData
  | .non => some .none
  | .bl b => some (.bool b)
  | .int i => some (.int i)
  | .str x => some (.str x)
  | .tup ts => (datL ts).map .tuple
  | .lst ts => (datL ts).map .list
  | .own ts => (datL ts).map .list
  | .frz ts => (datL ts).map .list
  | _ => none
def datL : List D → Option (List PyData)
  | [] => some []
  | t :: ts => match dat t, datL ts with
    | some d, some ds => some (d :: ds)
    | _, _ => none
end
def eqD (a b : D) : Option Bool := match dat a, dat b with
  | some d, some e => if SeqAt.shaped d && SeqAt.shaped e then some (PyData.eqv d e) else none
  | _, _ => none
def selGet {α : Type} (l : List (Str × α)) (s : Str) (r : Option α) : Option α := match l with
  | [] => r
  | p :: l => selGet l s (if s = p.1 then some p.2 else r)
def tabGet : List Str → List D → Str → Option D
  | k :: ks, t :: ts, x => if k = x then some t else tabGet ks ts x
  | _, _, _ => none
def tabIn (a b : D) : Option Bool := match a, b with
  | .str x, .tab ks ts => some (tabGet ks ts x).isSome
  | _, _ => none
def sgnIn (x z : Str) : Option Bool := match x.cps.toList with
  | [c] => some (decide (c ∈ z.cps.toList))
  | _ => none
def inD (a b : D) : Option Bool := match dat a, dat b with
  | some d, some (.list ds) => if SeqAt.shaped d && SeqAt.shaped (.list ds) then some (ds.any fun z => PyData.eqv z d) else none
  | some d, some (.tuple ds) => if SeqAt.shaped d && SeqAt.shaped (.tuple ds) then some (ds.any fun z => PyData.eqv z d) else none
  | some (.str x), some (.str z) => sgnIn x z
  | _, _ => tabIn a b
def cntD (a b : D) : Option D := match dat a, dat b with
  | some (.list ds), some d => if SeqAt.shaped (.list ds) && SeqAt.shaped d then some (.int (ds.countP fun z => PyData.eqv z d : Nat)) else none
  | _, _ => none
def ixmD (a b : D) : Option D := match dat a, dat b with
  | some (.list ds), some d => if SeqAt.shaped (.list ds) && SeqAt.shaped d then (ds.findIdx? fun z => PyData.eqv z d).map fun j => .int (j : Nat) else none
  | _, _ => none
def isNonD : D → Bool
  | .non => true
  | _ => false
def cmpD : CmpOp → D → D → Option Bool
  | .Eq, a, b => eqD a b
  | .NotEq, a, b => (eqD a b).map (!·)
  | .Lt, .int i, .int j => some (decide (i < j))
  | .LtE, .int i, .int j => some (decide (i ≤ j))
  | .Gt, .int i, .int j => some (decide (j < i))
  | .GtE, .int i, .int j => some (decide (j ≤ i))
  | .In, a, b => inD a b
  | .NotIn, a, b => (inD a b).map (!·)
  | .Is, a, .non => some (isNonD a)
  | .IsNot, a, .non => some (!isNonD a)
  | _, _, _ => none
def cellL (δ : Dl) (k : Nat) : Option (List D) := (δ[k]?).bind fun ts => if (insOf ts).isNone then some ts else none
def getF : List D → Str → Option D
  | [], _ => none
  | d0 :: r0, f => match d0, r0 with
    | .str g, d :: r => if g = f then some d else getF r f
    | _, _ => none
def setF (f : Str) (y : D) : List D → List D
  | [] => [.str f, y]
  | d0 :: r0 => match d0, r0 with
    | .str g, d :: r => if g = f then .str g :: y :: r else .str g :: d :: setF f y r
    | _, _ => d0 :: r0
def intsK : List D → Option (List Int)
  | [] => some []
  | .int i :: ts => (intsK ts).map (i :: ·)
  | _ => none
def insD (δ : Dl) (c : String) : D → Option (Nat × List D)
  | .cell k => (δ[k]?).bind fun ts => match ts with
    | .ty n :: r => if n = c ∧ ¬ n = "dict" then some (k, r) else none
    | _ => none
  | _ => none
def dicD (δ : Dl) : D → Option (Nat × List D)
  | .cell k => (δ[k]?).bind fun ts => match ts with
    | .ty n :: r => if n = "dict" then some (k, r) else none
    | _ => none
  | _ => none
def keyI : D → Option (List Int)
  | .tup ts => intsK ts
  | _ => none
def dLook (ks : List Int) : List D → Option D
  | [] => none
  | d0 :: r0 => match r0 with
    | [] => none
    | d :: r => if keyI d0 = some ks then some d else dLook ks r
def dPut (ks : List Int) (y : D) : List D → List D
  | [] => [.tup (ks.map .int), y]
  | d0 :: r0 => match r0 with
    | [] => [d0]
    | d :: r => if keyI d0 = some ks then d0 :: y :: r else d0 :: d :: dPut ks y r
def seqD (δ : Dl) : D → Option (List D)
  | .tup ts => some ts
  | .lst ts => some ts
  | .own ts => some ts
  | .frz ts => some ts
  | .cell k => cellL δ k
  | _ => none
def idxD (δ : Dl) (a i : D) : Option D := match a, i with
  | .str z, .int i => if z.length ≤ line then (atI z.cps.toList i).map fun c => .str ⟨#[c]⟩ else none
  | .tab ks ts, .str x => tabGet ks ts x
  | a, .int i => (seqD δ a).bind fun ts => atI ts i
  | _, _ => none
def cutD (xs : List D) (lo hi : Option Int) : List D := (xs.drop (HT.sIx xs.length 0 lo)).take (HT.sIx xs.length xs.length hi - HT.sIx xs.length 0 lo)
def cutZ (z : Str) (lo hi : Option Int) : Str :=
  ⟨((z.cps.toList.drop (HT.sIx z.length 0 lo)).take (HT.sIx z.length z.length hi - HT.sIx z.length 0 lo)).toArray⟩
def slcD (δ : Dl) (a : D) (lo hi : Option Int) : Option D := match a with
  | .tup ts => some (.tup (cutD ts lo hi))
  | .lst ts => some (.lst (cutD ts lo hi))
  | .own ts => some (.lst (cutD ts lo hi))
  | .frz ts => some (.lst (cutD ts lo hi))
  | .cell k => (cellL δ k).map fun ts => .lst (cutD ts lo hi)
  | .str z => if z.length ≤ line then some (.str (cutZ z lo hi)) else none
  | _ => none
def tyName : D → Option String
  | .non => some "NoneType"
  | .bl _ => some "bool"
  | .int _ => some "int"
  | .str _ => some "str"
  | .tup _ => some "tuple"
  | .lst _ => some "list"
  | .own _ => some "list"
  | _ => none
def isiT (a b : String) : Option Bool :=
  if ["NoneType", "bool", "int", "str", "tuple", "list"].contains a && ["bool", "int", "str", "tuple", "list"].contains b then some (a == b || (a == "bool" && b == "int")) else none
def intsOf : List D → Option (List Int)
  | [] => some []
  | .int i :: ts => (intsOf ts).map (i :: ·)
  | _ => none
def rowsOf : List D → Option (List (List Int))
  | [] => some []
  | .tup ts :: r => match intsOf ts, rowsOf r with
    | some n, some ns => some (n :: ns)
    | _, _ => none
  | _ => none
def minRow (r : List Int) (rs : List (List Int)) : List Int := rs.foldl (fun a y => if y < a then y else a) r
def minRows : List (List Int) → Option D
  | [] => none
  | r :: rs => some (.tup ((minRow r rs).map .int))
def ltI (k : Bool) (s r : List Int) : Bool := if k then decide (s.length < r.length ∨ (s.length = r.length ∧ s < r)) else decide (s < r)
def leI (k : Bool) (r s : List Int) : Bool := !ltI k s r
def srtT (k : Bool) (ts : List D) : Option D := (rowsOf ts).bind fun rows => if (rows.all (fun r => !r.isEmpty) || (!k && decide (rows.length < 2))) && rows.all (fun r => decide (r.length < 2 ^ 60)) then some (.lst (((ts.zip rows).mergeSort fun p q => leI k p.2 q.2).map (·.1))) else none
def srtX (k : Bool) : D → Option (List D)
  | .lst ts => some ts
  | .own ts => some ts
  | .tup ts => if k then none else some ts
  | _ => none
def srtD (k : Bool) (x : D) : Option D := (srtX k x).bind (srtT k)
def sortI (ns : List Int) : List Int := ns.mergeSort fun a b => decide (a ≤ b)
def bltD (δ : Dl) : Blt → List D → Option D
  | .abs, [.int i] => some (.int (if i < 0 then -i else i))
  | .len, [.str z] => if z.length ≤ line then some (.int z.length) else none
  | .len, [a] => (seqD δ a).map fun ts => .int ts.length
  | .int, [.int i] => some (.int i)
  | .int, [.bl b] => some (.int (if b then 1 else 0))
  | .int, [.str a] => if a.length ≤ 640 then (PySem.intText? a).map .int else none
  | .bool, [.int i] => some (.bl (i != 0))
  | .bool, [.bl b] => some (.bl b)
  | .tuple, [a] => (seqD δ a).map .tup
  | .list, [a] => (seqD δ a).map .lst
  | .max2, [.int i, .int j] => some (.int (if j > i then j else i))
  | .min2, [.int i, .int j] => some (.int (if j < i then j else i))
  | .max3, [.int i, .int j, .int k] => some (.int (max i (max j k)))
  | .sum, [.lst ts] => (intsOf ts).map fun ns => .int ns.sum
  | .maxl, [.lst ts] => (intsOf ts).bind fun ns => ns.max?.map .int
  | .maxl, [.tup ts] => (intsOf ts).bind fun ns => ns.max?.map .int
  | .minl, [.lst ts] => (intsOf ts).bind fun ns => ns.min?.map .int
  | .minr, [.lst ts] => (rowsOf ts).bind minRows
  | .sorted, [.lst ts] => (intsOf ts).map fun ns => .lst ((sortI ns).map .int)
  | .sorted, [.own ts] => (intsOf ts).map fun ns => .lst ((sortI ns).map .int)
  | .sorted, [.tup ts] => (intsOf ts).map fun ns => .lst ((sortI ns).map .int)
  | .sorted, [.tab ks ts] => if ks.length ≤ 1 ∧ ts.length = ks.length then some (.lst (ks.map .str)) else none
  | .str, [.int i] => if decide (i.natAbs < 2 ^ 1000) then some (.str (toString i)) else none
  | .isi, [a, .ty n] => (tyName a).bind fun t => (isiT t n).map .bl
  | _, _ => none
def enumFrom : Nat → List D → List D
  | _, [] => []
  | k, t :: ts => .tup [.int k, t] :: enumFrom (k + 1) ts
def rngFrom (lo c : Int) : Nat → List D
  | 0 => []
  | n + 1 => .int lo :: rngFrom (lo + c) c n
def rOk (i : Int) : Bool := decide (-(2 ^ 62) ≤ i) && decide (i < 2 ^ 62)
def lrngD : D → Option D
  | .int n => if decide (n ≤ 1000000) && decide (-1000000 ≤ n) then some (.lst (rngFrom 0 1 n.toNat)) else none
  | _ => none
def zipD (ta tb : List D) : List D := (ta.zip tb).map fun p => .tup [p.1, p.2]
def itemsD (δ : Dl) : IK → List D → Option (List D)
  | .seq, [.tup ts] => some ts
  | .seq, [.lst ts] => some ts
  | .seq, [.frz ts] => some ts
  | .rng1, [.int n] => if rOk n then some (rngFrom 0 1 n.toNat) else none
  | .rng2, [.int a, .int b] => if rOk a && rOk b then some (rngFrom a 1 (b - a).toNat) else none
  | .rng3, [.int a, .int b, .int c] => if rOk a && rOk b && decide (c = -1) then some (rngFrom a (-1) (a - b).toNat) else none
  | .zip, [.tup a, .tup b] => some (zipD a b)
  | .zip, [.lst a, .lst b] => some (zipD a b)
  | .enum, [.lst a] => some (enumFrom 0 a)
  | .enum, [.tup a] => some (enumFrom 0 a)
  | .rev, [.lst a] => some a.reverse
  | .rev, [.tup a] => some a.reverse
  | _, _ => none
def setMany : List Nat → List D → Sig → Option Sig
  | [], [], σ => some σ
  | i :: is, d :: ds, σ => if isOwn d then none else setMany is ds (σ.set i (some d))
  | _, _, _ => none
def setG : G → D → Sig → Option Sig
  | .name i, d, σ => if isOwn d then none else some (σ.set i (some d))
  | .tup is, .tup ds, σ => setMany is ds σ
  | .tup is, .lst ds, σ => setMany is ds σ
  | .nst is i, .tup [.tup ds, d], σ => if isOwn d then none else (setMany is ds σ).map fun σ => σ.set i (some d)
  | _, _, _ => none
def gSlots : G → List Nat
  | .name i => [i]
  | .tup is => is
  | .nst is i => is ++ [i]
def wipeD (σ : Sig) : List Nat → Sig
  | [] => σ
  | v :: vs => (wipeD σ vs).set v none
def isFresh : E → Bool
  | .lst _ => true
  | .lc .. => true
  | .slc .. => true
  | .blt .list _ => true
  | .bin .Add _ _ => true
  | .bin .Mult _ _ => true
  | .lend _ a => isFresh a
  | _ => false

def lcGo (g : G) (c : Sig → Dl → R Bool) (e : Sig → Dl → R D) (σw : Sig) : List D → Dl → R (List D)
  | [], δ => .ok [] δ
  | x :: xs, δ => match setG g x σw with
    | none => .bad
    | some σ2 => (c σ2 δ).noex.bind fun b δ => if b then (e σ2 δ).noex.bind fun y δ => if isOwn y then .bad else (lcGo g c e σw xs δ).bind fun ys δ => .ok (y :: ys) δ else lcGo g c e σw xs δ

def gxGo (b : Bool) (g : G) (c : Sig → Dl → R Bool) (e : Sig → Dl → R D) (σw : Sig) : List D → Dl → R Bool
  | [], δ => .ok (!b) δ
  | x :: xs, δ => match setG g x σw with
    | none => .bad
    | some σ2 => (c σ2 δ).noex.bind fun k δ => if k then (e σ2 δ).noex.bind fun y δ => (match y with
      | .bl r => if r = b then .ok b δ else gxGo b g c e σw xs δ
      | _ => .bad) else gxGo b g c e σw xs δ
def gsGo (g : G) (c : Sig → Dl → R Bool) (e : Sig → Dl → R D) (σw : Sig) : Int → List D → Dl → R Int
  | a, [], δ => .ok a δ
  | a, x :: xs, δ => match setG g x σw with
    | none => .bad
    | some σ2 => (c σ2 δ).noex.bind fun k δ => if k then (e σ2 δ).noex.bind fun y δ => (match y with
      | .int r => gsGo g c e σw (a + r) xs δ
      | _ => .bad) else gsGo g c e σw a xs δ
def unI (g : G) (c : Sig → Dl → R Bool) (e : Sig → Dl → R D) (σw : Sig) : List Str → List D → Dl → R (List Str)
  | a, [], δ => .ok a δ
  | a, x :: xs, δ => match setG g x σw with
    | none => .bad
    | some σ2 => (c σ2 δ).noex.bind fun k δ => if k then (e σ2 δ).noex.bind fun y δ => (match y with
      | .str s => unI g c e σw (if a.contains s then a else a ++ [s]) xs δ
      | _ => .bad) else unI g c e σw a xs δ
def unF (k : IK) (vs : List Nat) (g : G) (i : Sig → Dl → R (List D)) (c : Sig → Dl → R Bool) (e : Sig → Dl → R D) (σ : Sig) (a : List Str) (δ : Dl) : R (List Str) := (i σ δ).bind fun ds δ => match itemsD δ k ds with
  | none => .bad
  | some xs => if decide (1000 < xs.length) then .bad else unI g c e (wipeD σ vs) a xs δ
def unO (g : G) (c : Sig → Dl → R Bool) (f : Sig → List Str → Dl → R (List Str)) (σw : Sig) : List Str → List D → Dl → R (List Str)
  | a, [], δ => .ok a δ
  | a, x :: xs, δ => match setG g x σw with
    | none => .bad
    | some σ2 => (c σ2 δ).noex.bind fun k δ => if k then (f σ2 a δ).noex.bind fun a δ => unO g c f σw a xs δ else unO g c f σw a xs δ
structure Ev where
  v : Sig → Dl → R D
  t : Sig → Dl → R Bool
  o : Sig → Dl → R (Option Int)
  a : Sig → Dl → R (List D)
def intOf : D → Option Int
  | .int i => some i
  | _ => none
def Ev.val (v : Sig → Dl → R D) : Ev where
  v := v
  t := fun σ δ => (v σ δ).bind fun x δ => R.of (truthD x) δ
  o := fun σ δ => (v σ δ).bind fun x δ => (R.of (intOf x) δ).bind fun i δ => .ok (some i) δ
  a := fun _ _ => .bad
def Ev.tst (v : Sig → Dl → R D) (t : Sig → Dl → R Bool) : Ev where
  v := v
  t := t
  o := fun _ _ => .bad
  a := fun _ _ => .bad
def Ev.arg (a : Sig → Dl → R (List D)) : Ev where
  v := fun _ _ => .bad
  t := fun _ _ => .bad
  o := fun _ _ => .bad
  a := a
def Ev.ofB (b : Sig → Dl → R Bool) : Ev where
  v := fun σ δ => (b σ δ).bind fun k δ => .ok (.bl k) δ
  t := b
  o := fun _ _ => .bad
  a := fun _ _ => .bad

structure Par where
  F : Nat → List D → Dl → R D
  G : Nat → D
  X : List Str
def findH (X : List Str) (c : Str) : List (Str × Str) → Option Str
  | [] => none
  | (c', s) :: r => if X.contains c' then (if c = c' then some s else findH X c r) else none
section
variable (P : Par)
def callE (f : Nat) (ds : List D) (δ : Dl) : R D := match P.F f (ds.map demote) δ with
  | .ok d δ' => if isOwn d || ds.any isOwn && !((noLst d || difD (ds.filterMap ownLen) d) && δ'.all noLstL) then .bad else .ok d δ'
  | .ex c p δ' => if ds.any isOwn && !(noLstL p && δ'.all noLstL) then .bad else .ex c p δ'
  | .bad => .bad
def scopeE (n : Nat) : R D → R D
  | .ok d δ' => if noCell d && (δ'.take n).all noCellL then .ok d (δ'.take n) else .bad
  | .ex c p δ' => if noCellL p && (δ'.take n).all noCellL then .ex c p (δ'.take n) else .bad
  | .bad => .bad
def toldE (X : List Str) (hs : List (Str × Str)) : R D → R D
  | .ok d δ => if isOwn d then .bad else .ok d δ
  | .ex c _ δ => match findH X c hs with
    | some s => .ok (.str s) δ
    | none => .bad
  | .bad => .bad
def ownAt (σ : Sig) (i : Nat) : Option (List D) := match σ[i]? with
  | some (some (.own ts)) => some ts
  | _ => none
def lendOk (fr : Bool) (d : D) : Bool := noLst d || (fr && match d with
  | .lst ys => noLstL ys
  | _ => false)
def lendE (fr : Bool) : R D → R D
  | .ok d δ' => if lendOk fr d && δ'.all noLstL then .ok d δ' else .bad
  | .ex c p δ' => if noLstL p && δ'.all noLstL then .ex c p δ' else .bad
  | .bad => .bad
def lendT : R Bool → R Bool
  | .ok d δ' => if δ'.all noLstL then .ok d δ' else .bad
  | .ex c p δ' => if noLstL p && δ'.all noLstL then .ex c p δ' else .bad
  | .bad => .bad
def seqE (k : List D → D) (ds : List D) (δ : Dl) : R D := if ds.any isOwn || decide (1000 < ds.length) then .bad else .ok (k ds) δ
def evA' : E → Ev
  | .var i => .val fun σ δ => match σ[i]? with
    | some (some d) => .ok d δ
    | _ => .bad
  | .int i => .val fun _ δ => .ok (.int i) δ
  | .bl b => .val fun _ δ => .ok (.bl b) δ
  | .non => .val fun _ δ => .ok .non δ
  | .str s => .val fun _ δ => .ok (.str s) δ
  | .ty n => .val fun _ δ => .ok (.ty n) δ
  | .glob g => .val fun _ δ => .ok (P.G g) δ
  | .bin o a b => .val fun σ δ => ((evA' a).v σ δ).bind fun x δ => ((evA' b).v σ δ).bind fun y δ => R.of (binD o x y) δ
  | .neg a => .val fun σ δ => ((evA' a).v σ δ).bind fun x δ => R.of (negD x) δ
  | .fdv a b => .val fun σ δ => ((evA' a).v σ δ).bind fun x δ => ((evA' b).v σ δ).bind fun y δ => R.of (fdvD x y) δ
  | .cmp o a b => .ofB fun σ δ => ((evA' a).v σ δ).bind fun x δ => ((evA' b).v σ δ).bind fun y δ => R.of (cmpD o x y) δ
  | .chain o o' a b c => .ofB fun σ δ => ((evA' a).v σ δ).bind fun x δ => ((evA' b).v σ δ).bind fun y δ => (R.of (cmpD o x y) δ).bind fun k δ =>
      if k then ((evA' c).v σ δ).bind fun z δ => R.of (cmpD o' y z) δ else .ok false δ
  | .and a b => .tst (fun σ δ => ((evA' a).v σ δ).bind fun x δ => (R.of (truthD x) δ).bind fun k δ => if k then (evA' b).v σ δ else .ok x δ)
      fun σ δ => ((evA' a).t σ δ).bind fun k δ => if k then (evA' b).t σ δ else .ok false δ
  | .or a b => .tst (fun σ δ => ((evA' a).v σ δ).bind fun x δ => (R.of (truthD x) δ).bind fun k δ => if k then .ok x δ else (evA' b).v σ δ)
      fun σ δ => ((evA' a).t σ δ).bind fun k δ => if k then .ok true δ else (evA' b).t σ δ
  | .not a => .tst (fun σ δ => ((evA' a).v σ δ).bind fun x δ => (R.of (truthD x) δ).bind fun k δ => .ok (.bl (!k)) δ)
      fun σ δ => ((evA' a).t σ δ).bind fun k δ => .ok (!k) δ
  | .ite c a b => .tst (fun σ δ => ((evA' c).t σ δ).bind fun k δ => if k then (evA' a).v σ δ else (evA' b).v σ δ) fun _ _ => .bad
  | .tup a => .val fun σ δ => ((evA' a).a σ δ).bind (seqE .tup)
  | .lst a => .val fun σ δ => ((evA' a).a σ δ).bind (seqE .lst)
  | .idx a i => .val fun σ δ => ((evA' a).v σ δ).bind fun x δ => ((evA' i).v σ δ).bind fun y δ => R.of (idxD δ x y) δ
  | .srt k a => .val fun σ δ => ((evA' a).v σ δ).bind fun x δ => R.of (srtD k x) δ
  | .cnt a b => .val fun σ δ => ((evA' a).v σ δ).bind fun x δ => if (mlst x).isSome then ((evA' b).v σ δ).bind fun y δ => R.of (cntD x y) δ else .bad
  | .ixm a b => .val fun σ δ => ((evA' a).v σ δ).bind fun x δ => if (mlst x).isSome then ((evA' b).v σ δ).bind fun y δ => R.of (ixmD x y) δ else .bad
  | .lrng a => .val fun σ δ => ((evA' a).v σ δ).bind fun x δ => R.of (lrngD x) δ
  | .slc a lo hi => .val fun σ δ => ((evA' a).v σ δ).bind fun x δ => ((evA' lo).o σ δ).bind fun l δ => ((evA' hi).o σ δ).bind fun h δ => R.of (slcD δ x l h) δ
  | .call f a => .val fun σ δ => ((evA' a).a σ δ).bind (callE P f)
  | .blt b a => .val fun σ δ => ((evA' a).a σ δ).bind fun ds δ => R.of (bltD δ b ds) δ
  | .lc vs g k it c e => .val fun σ δ => ((evA' it).a σ δ).bind fun ds δ => match itemsD δ k ds with
    | none => .bad
    | some xs => if decide (1000000 < xs.length) || !((gSlots g).all fun i => vs.contains i) then .bad else
      (lcGo g (evA' c).t (evA' e).v (wipeD σ vs) xs δ).bind fun ys δ => .ok (.lst ys) δ
  | .gx b vs g k it c e => .val fun σ δ => ((evA' it).a σ δ).bind fun ds δ => match itemsD δ k ds with
    | none => .bad
    | some xs => if decide (1000000 < xs.length) || !((gSlots g).all fun i => vs.contains i) then .bad else
      (gxGo b g (evA' c).t (evA' e).v (wipeD σ vs) xs δ).bind fun r δ => .ok (.bl r) δ
  | .gsm vs g k it c e => .val fun σ δ => ((evA' it).a σ δ).bind fun ds δ => match itemsD δ k ds with
    | none => .bad
    | some xs => if decide (1000000 < xs.length) || !((gSlots g).all fun i => vs.contains i) then .bad else
      (gsGo g (evA' c).t (evA' e).v (wipeD σ vs) 0 xs δ).bind fun r δ => .ok (.int r) δ
  | .uni vs g k it c vs1 g1 k1 it1 c1 e => .val fun σ δ => ((evA' it).a σ δ).bind fun ds δ => match itemsD δ k ds with
    | none => .bad
    | some xs => if decide (1000 < xs.length) || !((gSlots g).all fun i => vs.contains i) || !((gSlots g1).all fun i => vs1.contains i) then .bad else
      (unO g (evA' c).t (unF k1 vs1 g1 (evA' it1).a (evA' c1).t (evA' e).v) (wipeD σ vs) [] xs δ).bind fun ks δ =>
        .ok (.tab ks (ks.map fun _ => .bl true)) δ
  | .dnew => .tst (fun _ δ => .ok (.cell δ.length) (δ ++ [[.ty "dict"]])) fun _ _ => .bad
  | .din n a d => .ofB fun σ δ => ((evA' a).v σ δ).bind fun x δ => ((evA' d).v σ δ).bind fun y δ => R.of ((keyI x).bind fun ks => (dicD δ y).map fun p => if n then !(dLook ks p.2).isSome else (dLook ks p.2).isSome) δ
  | .dget d a => .tst (fun σ δ => ((evA' d).v σ δ).bind fun y δ => ((evA' a).v σ δ).bind fun x δ => R.of ((keyI x).bind fun ks => (dicD δ y).bind fun p => dLook ks p.2) δ) fun _ _ => .bad
  | .dgeto d a x => .tst (fun σ δ => ((evA' d).v σ δ).bind fun y δ => if (dicD δ y).isSome then ((evA' a).v σ δ).bind fun k δ => ((evA' x).v σ δ).bind fun z δ => if isOwn z then .bad else R.of ((keyI k).bind fun ks => (dicD δ y).map fun p => (dLook ks p.2).getD z) δ else .bad) fun _ _ => .bad
  | .fld c f a => .val fun σ δ => ((evA' a).v σ δ).bind fun x δ => R.of ((insD δ c x).bind fun p => getF p.2 f) δ
  | .mcl c m f o a => .val fun σ δ => ((evA' o).v σ δ).bind fun x δ => match insD δ c x with
    | some p => if (getF p.2 m).isNone then ((evA' a).a σ δ).bind fun ds δ => callE P f (x :: ds) δ else .bad
    | none => .bad
  | .mk c f a => .val fun σ δ => ((evA' a).a σ δ).bind fun ds δ => if ds.any isOwn || decide (c = "dict") then .bad else (callE P f (.cell δ.length :: ds) (δ ++ [[.ty c]])).bind fun d δ' => match d with
    | .non => .ok (.cell δ.length) δ'
    | _ => .bad
  | .newc a => .tst (fun σ δ => if isFresh a then ((evA' a).v σ δ).bind fun d δ => match d with
      | .lst ts => if (insOf ts).isSome then .bad else .ok (.cell δ.length) (δ ++ [ts])
      | _ => .bad
    else .bad) fun _ _ => .bad
  | .lend i a => .tst (fun σ δ => match ownAt σ i with
      | some ts => lendE (isFresh a) ((evA' a).v (σ.set i (some (.lst ts))) δ)
      | none => .bad) fun σ δ => match ownAt σ i with
      | some ts => lendT ((evA' a).t (σ.set i (some (.lst ts))) δ)
      | none => .bad
  | .scope a => .tst (fun σ δ => scopeE δ.length ((evA' a).v σ δ)) fun _ _ => .bad
  | .told hs a => .val fun σ δ => toldE P.X hs ((evA' a).v σ δ)
  | .tab1 s i => .val fun σ δ => match σ[i]? with
    | some (some d) => if isOwn d then .bad else .ok (.tab [s] [d]) δ
    | _ => .bad
  | .sel fs i a => .val fun σ δ => match σ[i]? with
    | some (some (.str s)) => (match selGet fs s none with
      | some f => ((evA' a).a σ δ).bind (callE P f)
      | none => .bad)
    | _ => .bad
  | .nil => .arg fun _ δ => .ok [] δ
  | .cons a b => .arg fun σ δ => ((evA' a).v σ δ).bind fun x δ => ((evA' b).a σ δ).bind fun xs δ => .ok (x :: xs) δ
  | .np => { v := fun _ _ => .bad, t := fun _ δ => .ok true δ, o := fun _ δ => .ok none δ, a := fun _ _ => .bad }
termination_by structural e => e

inductive O where
  | nx (σ : Sig) (δ : Dl) | rt (d : D) (δ : Dl) | bk (σ : Sig) (δ : Dl) | ct (σ : Sig) (δ : Dl) | ex (c : Str) (p : List D) (σ : Sig) (δ : Dl) | bad
def whlGo (c : Sig → Dl → R Bool) (b : Sig → Dl → O) : Nat → Sig → Dl → O
  | 0, _, _ => .bad
  | n + 1, σ, δ => match c σ δ with
    | .ok k δ => if k then (match b σ δ with
      | .nx σ δ => whlGo c b n σ δ
      | .ct σ δ => whlGo c b n σ δ
      | .bk σ δ => .nx σ δ
      | o => o) else .nx σ δ
    | .ex c p δ => .ex c p σ δ
    | .bad => .bad
def forGo (g : G) (b : Sig → Dl → O) : List D → Sig → Dl → O
  | [], σ, δ => .nx σ δ
  | x :: xs, σ, δ => match setG g x σ with
    | none => .bad
    | some σ => match b σ δ with
      | .nx σ δ => forGo g b xs σ δ
      | .ct σ δ => forGo g b xs σ δ
      | .bk σ δ => .nx σ δ
      | o => o
def R.then {α : Type} (x : R α) (σ : Sig) (f : α → Dl → O) : O := match x with
  | .ok a δ => f a δ
  | .ex c p δ => .ex c p σ δ
  | .bad => .bad
def O.next (o : O) (f : Sig → Dl → O) : O := match o with
  | .nx σ δ => f σ δ
  | o => o
def isVar : E → Bool
  | .var _ => true
  | _ => false
def parGo (σ₀ : Sig) : List (Nat × Bool) → E → Sig → Dl → O
  | [], .nil, σ, δ => .nx σ δ
  | (i, w) :: is, .cons a b, σ, δ => R.then ((evA' P a).v σ₀ δ) σ₀ fun d δ => match w, d with
    | false, d => if isOwn d then .bad else parGo σ₀ is b (σ.set i (some d)) δ
    | true, .lst ts => if isFresh a then parGo σ₀ is b (σ.set i (some (.own ts))) δ else .bad
    | true, _ => .bad
  | _, _, _, _ => .bad
def tryO (c : Str) (σ : Sig) : R D → O
  | .ok _ δ => .nx σ δ
  | .ex c' p δ => if c' = c then (match p with
    | [d] => if isOwn d then .bad else .rt d δ
    | _ => .bad) else .ex c' p σ δ
  | .bad => .bad
def lamsGo (k : Nat) (lcs : List Str) (rhs : E) (σ : Sig) : E → Nat → Dl → O
  | .nil, _, δ => .nx σ δ
  | .cons a b, n, δ => match (evA' P a).v σ δ with
    | .ex c _ δ => if lcs.contains c then (match (evA' P rhs).v (σ.set k (some (.int n))) δ with
      | .ok d δ => if cmpD .NotEq (.lst ((lcs.map fun x => .bl (decide (x = c))) ++ [.bl true])) d = some false then lamsGo k lcs rhs σ b (n + 1) δ else .bad
      | _ => .bad) else .bad
    | _ => .bad
  | _, _, _ => .bad
def lamsEv (w k : Nat) (lcs : List Str) (rhs es : E) (σ : Sig) (δ : Dl) : O := match σ[w]?, σ[k]? with
  | some none, some none => if decide (w ≠ k) && decide (lcs.length ≤ 100) then lamsGo P k lcs rhs σ es 0 δ else .bad
  | _, _ => .bad
def evS (n : Nat) : S → Sig → Dl → O
  | .skip, σ, δ => .nx σ δ
  | .pass, σ, δ => .nx σ δ
  | .seq a b, σ, δ => (evS n a σ δ).next fun σ δ => evS n b σ δ
  | .expr e, σ, δ => R.then ((evA' P e).v σ δ) σ fun _ δ => .nx σ δ
  | .asg g e, σ, δ => R.then ((evA' P e).v σ δ) σ fun d δ => match setG g d σ with
    | some σ => .nx σ δ
    | none => .bad
  | .asgO i e, σ, δ => R.then ((evA' P e).v σ δ) σ fun d δ => match d with
    | .lst ts => if isFresh e then .nx (σ.set i (some (.own ts))) δ else .bad
    | _ => .bad
  | .par is a, σ, δ => if decide ((is.map (·.1)).Nodup) then parGo P σ is a σ δ else .bad
  | .asgT is a, σ, δ => if decide ((is.map (·.1)).Nodup) && decide (is.length ≤ 1000) then parGo P σ is a σ δ else .bad
  | .setx o ix e, σ, δ => match o with
    | .var i => match σ[i]? with
      | some (some (.own ts)) => R.then ((evA' P e).v σ δ) σ fun d δ => R.then ((evA' P ix).v σ δ) σ fun x δ => match intOf x with
        | some z => (match ixN ts.length z with
          | some j => if isOwn d then .bad else .nx (σ.set i (some (.own (ts.set j d)))) δ
          | none => .bad)
        | none => .bad
      | some (some (.cell k)) => R.then ((evA' P e).v σ δ) σ fun d δ => R.then ((evA' P ix).v σ δ) σ fun x δ => match intOf x, cellL δ k with
        | some z, some ts => (match ixN ts.length z with
          | some j => if isOwn d || (insOf (ts.set j d)).isSome then .bad else .nx σ (δ.set k (ts.set j d))
          | none => .bad)
        | _, _ => .bad
      | _ => .bad
    | _ => .bad
  | .aug i o e, σ, δ => R.then ((evA' P (.var i)).v σ δ) σ fun x δ => R.then ((evA' P e).v σ δ) σ fun y δ => match augD o x y with
    | some z => .nx (σ.set i (some z)) δ
    | none => .bad
  | .setf c i f e, σ, δ => R.then ((evA' P e).v σ δ) σ fun d δ => match σ[i]? with
    | some (some x) => (match insD δ c x with
      | some (k, r) => if isOwn d || decide (1900 < r.length) then .bad else .nx σ (δ.set k (.ty c :: setF f d r))
      | none => .bad)
    | _ => .bad
  | .augf c i f o e, σ, δ => match σ[i]? with
    | some (some x) => (match insD δ c x with
      | some (_, r) => (match getF r f with
        | some y => R.then ((evA' P e).v σ δ) σ fun d δ => match augD o y d, insD δ c x with
          | some z, some (k, r) => if isOwn z || decide (1900 < r.length) then .bad else .nx σ (δ.set k (.ty c :: setF f z r))
          | _, _ => .bad
        | none => .bad)
      | none => .bad)
    | _ => .bad
  | .app i e, σ, δ => match ownAt σ i with
    | some ts => R.then ((evA' P e).v σ δ) σ fun d δ => if isOwn d || decide (1000000 < ts.length) then .bad else .nx (σ.set i (some (.own (ts ++ [d])))) δ
    | none => .bad
  | .ext i e, σ, δ => match ownAt σ i with
    | some ts => R.then ((evA' P e).v σ δ) σ fun d δ => match d with
      | .lst us => if decide (1000000 < ts.length + us.length) then .bad else .nx (σ.set i (some (.own (ts ++ us)))) δ
      | _ => .bad
    | none => .bad
  | .pop i, σ, δ => match ownAt σ i with
    | some ts => if ts.isEmpty then .bad else .nx (σ.set i (some (.own ts.dropLast))) δ
    | none => .bad
  | .dsetd i k e, σ, δ => match σ[i]? with
    | some (some x) => if (dicD δ x).isSome then R.then ((evA' P k).v σ δ) σ fun kd δ => R.then ((evA' P e).v σ δ) σ fun d δ => (match keyI kd, dicD δ x with
      | some ks, some (c, r) => if isOwn d || decide (1000000 < r.length) then .bad else (match dLook ks r with
        | some _ => .nx σ δ
        | none => .nx σ (δ.set c (.ty "dict" :: dPut ks d r)))
      | _, _ => .bad) else .bad
    | _ => .bad
  | .dput i k e, σ, δ => R.then ((evA' P e).v σ δ) σ fun d δ => match σ[i]? with
    | some (some x) => R.then ((evA' P k).v σ δ) σ fun kd δ => (match keyI kd, dicD δ x with
      | some ks, some (c, r) => if isOwn d || decide (1000000 < r.length) then .bad else .nx σ (δ.set c (.ty "dict" :: dPut ks d r))
      | _, _ => .bad)
    | _ => .bad
  | .augx i ix o e, σ, δ => match σ[i]? with
    | some (some (.cell k)) => R.then ((evA' P ix).v σ δ) σ fun x δ => (match intOf x, cellL δ k with
      | some z, some ts => if z < 0 then .bad else (match atI ts z with
        | some d0 => R.then ((evA' P e).v σ δ) σ fun y δ => (match augD o d0 y, cellL δ k with
          | some d, some us => (match ixN us.length z with
            | some j => if isOwn d || (insOf (us.set j d)).isSome then .bad else .nx σ (δ.set k (us.set j d))
            | none => .bad)
          | _, _ => .bad)
        | none => .bad)
      | _, _ => .bad)
    | _ => .bad
  | .tryF i e c, σ, δ => if P.X.contains c && decide (i < σ.length) then tryO c σ ((evA' P e).v σ δ) else .bad
  | .raw, _, _ => .bad
  | .lams w k lcs rhs es, σ, δ => lamsEv P w k lcs rhs es σ δ
  | .ite c a b, σ, δ => R.then ((evA' P c).t σ δ) σ fun k δ => if k then evS n a σ δ else evS n b σ δ
  | .whl c b, σ, δ => whlGo (evA' P c).t (evS n b) n σ δ
  | .for g k it b, σ, δ => R.then ((evA' P it).a σ δ) σ fun ds δ => match itemsD δ k ds with
    | some xs => forGo g (evS n b) xs σ δ
    | none => .bad
  | .ret e, σ, δ => R.then ((evA' P e).v σ δ) σ fun d δ => if isOwn d then (if isVar e then .rt (demote d) δ else .bad) else .rt d δ
  | .retN, _, δ => .rt .non δ
  | .rais c, σ, δ => if P.X.contains c then .ex c [] σ δ else .bad
  | .raisP c e, σ, δ => R.then ((evA' P e).v σ δ) σ fun d δ => if isOwn d || !P.X.contains c then .bad else .ex c [d] σ δ
  | .brk, σ, δ => .bk σ δ
  | .cont, σ, δ => .ct σ δ
  | .frz i s, σ, δ => match ownAt σ i with
    | some ts => evS n s (σ.set i (some (.lst ts))) δ
    | none => .bad
termination_by structural s => s
def runF (n k w : Nat) (s : S) (ds : List D) (δ : Dl) : R D := if ds.length = k then (match evS P n s (ds.map some ++ List.replicate (w - ds.length) none) δ with
  | .nx _ δ => .ok .non δ
  | .rt d δ => if isOwn d then .bad else .ok d δ
  | .ex c p _ δ => .ex c p δ
  | _ => .bad) else .bad
end
end Mini

namespace L2
open PySem PySem.Spec PyProof.Rows
theorem tuple_mul1 (l : Addr) (items : Array Value) (n : Nat) (dd : Option Addr) (sl : Array (Option Value)) (u : Tok) :
    Meets (Builtin.«tuple.__mul__» ⟨[.ref l, .int 1 u], []⟩) (fun _ R s => s.heap.get? l = some { cls := .type "tuple", dict := dd, data := .seq items n, slots := sl } ∧
      R (.ok (.ret (Value.ref l))) s) :=
  .of_wp fun prog w A R s h => by
    obtain ⟨hp, g, d, tk, os⟩ := s
    obtain ⟨hl, h⟩ := h
    have f1 := AutoSeq1.idx_int
    wp_walk using wpAny_loadPart' hl
    repeat (first
      | (refine wpAny_ite_false (by decide) ?_; wp_walk using wpAny_loadPart' hl)
      | (refine wpAny_ite_true (by simp) ?_; wp_walk using wpAny_loadPart' hl))
    exact ⟨_, rfl, h⟩
theorem tuple_mul0 (l : Addr) (items : Array Value) (n : Nat) (dd : Option Addr) (sl : Array (Option Value)) (x : Int) (u : Tok) (c0 : (decide (x < -(2 ^ 63)) || decide (x ≥ 2 ^ 63)) = false) (c1 : (items.isEmpty || x == 1) = false) (c2 : (decide (x ≤ 0) || items.isEmpty) = true) :
    Meets (Builtin.«tuple.__mul__» ⟨[.ref l, .int x u], []⟩) (fun _ R s => s.heap.get? l = some { cls := .type "tuple", dict := dd, data := .seq items n, slots := sl } ∧
      R (.ok (.ret (Value.ref s.heap.objs.size))) { s with heap := s.heap.push { cls := Value.type "tuple", data := Data.seq #[] }, toks := s.toks }) :=
  .of_wp fun prog w A R s h => by
    obtain ⟨hp, g, d, tk, os⟩ := s
    obtain ⟨hl, h⟩ := h
    have f1 := AutoSeq1.idx_int
    wp_walk using wpAny_loadPart' hl
    repeat (first
      | (refine wpAny_ite_false (decide_eq_false (by rw [c0]; exact Bool.false_ne_true)) ?_; wp_walk using wpAny_loadPart' hl)
      | (refine wpAny_ite_false (decide_eq_false (by rw [c1]; exact Bool.false_ne_true)) ?_; wp_walk using wpAny_loadPart' hl)
      | (refine wpAny_ite_true (decide_eq_true (by rw [c2])) ?_; wp_walk using wpAny_loadPart' hl))
    exact ⟨_, rfl, h⟩

def rRepTA (K : PySem.W.Frag) : R2 := fun x y H Q => ∃ l k xs, x = .ref l ∧ y = .int k ∧ SqT K H l xs ∧ xs ≠ [] ∧ -1000 ≤ k ∧ k ≤ 1000 ∧ xs.length ≤ 1000 ∧ (k = 1 → Q (.ref l) H) ∧ (k ≠ 1 → ∀ p, H p = none → Q (.ref p) (upd H p (.tup (List.replicate k.toNat xs).flatten)))
theorem op_repTA {X : Cx} : OpR X (binaryOp .Mult) (rRepTA X.K) := by
  intro pins s σ H x y v u Q I rx ry h
  obtain ⟨l, k, xs, ex, ey, hT, hne, h1, h2, hz, q1, q2⟩ := h
  by_cases k2 : 2 ≤ k
  · exact op_repT pins s σ H x y v u Q I rx ry ⟨l, k, xs, ex, ey, hT, hne, k2, h2, hz, q2 (by omega)⟩
  subst ex ey
  cases rx
  obtain ⟨t, rfl⟩ := ry
  obtain ⟨its, r, ⟨⟨cls, dd, data, sl⟩, ho, hc, n, hd⟩, hs⟩ := I.tuple hT
  simp only at hc hd
  subst hc hd
  have hle : its.length = xs.length := r.length.symm
  have hn : its ≠ [] := fun e => hne (by
    rw [e] at hle
    exact List.eq_nil_of_length_eq_zero hle.symm)
  have hi : its.toArray.isEmpty = false := by
    cases its with
    | nil => exact absurd rfl hn
    | cons a b => rfl
  by_cases e1 : k = 1
  · subst e1
    refine wpAny_binaryOp_repeat_ref (T := "tuple") (U := "int") (by decide) ⟨_, ho, rfl⟩ (fun s' => typeIs_int s' 1 t) noFill_tuple_mul F.fills_int_mul F.slot_int_rmul repeat_tuple F.slot_int_index.lookup
      (call_meets F.slot_int_rmul (typeIs_int s 1 t) F.entry_int_rmul (F.args_int_rmul_2 _ _) (int_rmul_tuple 1 t l its.toArray n dd sl)
        ⟨ho, rfl, ⟨_, ho, rfl⟩, call_meets F.slot_tuple_mul ⟨_, ho, rfl⟩ F.entry_tuple_mul (F.args_tuple_mul_2 _ _) (tuple_mul1 l its.toArray n dd sl t) ⟨ho, ?_⟩⟩)
    exact ⟨.ref l, H, I, rfl, q1 rfl⟩
  · have c0 : (decide (k < -(2 ^ 63)) || decide (k ≥ 2 ^ 63)) = false := by
      rw [decide_eq_false (by omega), decide_eq_false (by omega)] <;> rfl
    have c1 : (its.toArray.isEmpty || k == 1) = false := by
      rw [hi, Bool.false_or]
      exact beq_eq_false_iff_ne.mpr e1
    have c2 : (decide (k ≤ 0) || its.toArray.isEmpty) = true := by
      rw [hi, Bool.or_false]
      exact decide_eq_true (by omega)
    refine wpAny_binaryOp_repeat_ref (T := "tuple") (U := "int") (by decide) ⟨_, ho, rfl⟩ (fun s' => typeIs_int s' k t) noFill_tuple_mul F.fills_int_mul F.slot_int_rmul repeat_tuple F.slot_int_index.lookup
      (call_meets F.slot_int_rmul (typeIs_int s k t) F.entry_int_rmul (F.args_int_rmul_2 _ _) (int_rmul_tuple k t l its.toArray n dd sl)
        ⟨ho, rfl, ⟨_, ho, rfl⟩, call_meets F.slot_tuple_mul ⟨_, ho, rfl⟩ F.entry_tuple_mul (F.args_tuple_mul_2 _ _) (tuple_mul0 l its.toArray n dd sl k t c0 c1 c2) ⟨ho, ?_⟩⟩)
    have e0 : (List.replicate k.toNat xs).flatten = [] := by
      rw [show k.toNat = 0 by omega]; rfl
    have q3 := q2 e1
    rw [e0] at q3
    refine ⟨.ref s.heap.objs.size, _, I.laid (t' := s.toks) (o := .tup []) (fun b ob q => Heap.get?_push_of_some _ q) (Nat.le_refl _) ?_, rfl, q3 _ (I.hok.fresh (Nat.le_refl _))⟩
    exact ⟨by rw [sizeLine_eq]; simp, [], .nil, IsTup.new _ _⟩
end L2

namespace Mini
open PySem PySem.Spec PyProof.Rows L2

structure Pre (K : PySem.W.Frag) (Tb : List (Addr × Str)) (C : List Addr) (M : Addr → Prop) (H : Hp) (δ : Dl) : Prop where
  tabs : LamX.Tabs Tb H
  nd : C.Nodup
  len : C.length = δ.length
  cm : ∀ a, a ∈ C → ¬ M a
  mh : ∀ a, M a → ∃ o, H a = some o ∧ MO o
  cells : ∀ (k : Nat) (ts : List D), δ[k]? = some ts → ∃ (a : Addr), C[k]? = some a ∧ CellR K C M H a ts
section
variable {K : PySem.W.Frag} {Tb : List (Addr × Str)} {C C' : List Addr} {M M' : Addr → Prop} {H H' : Hp} {δ δ' : Dl}
theorem Pre.cellH (p : Pre K Tb C M H δ) : CellH C H := fun a ha => by
  obtain ⟨k, hk, e⟩ := List.getElem_of_mem ha
  have hk' : k < δ.length := by rw [← p.len]; exact hk
  obtain ⟨b, e1, e2⟩ := p.cells k δ[k] (List.getElem?_eq_getElem hk')
  rw [List.getElem?_eq_getElem hk, e] at e1
  cases e1
  exact e2.co
theorem cellL_of {k : Nat} {ts : List D} (e : cellL δ k = some ts) : δ[k]? = some ts ∧ insOf ts = none := by
  unfold Mini.cellL at e
  rw [Option.bind_eq_some_iff] at e
  obtain ⟨us, e1, e2⟩ := e
  split at e2
  · rename_i h
    cases e2
    exact ⟨e1, Option.isNone_iff_eq_none.mp h⟩
  · cases e2
theorem Pre.cellL (p : Pre K Tb C M H δ) {k : Nat} {ts : List D} {a : Addr} (e : cellL δ k = some ts) (h : C[k]? = some a) : ∃ vs, H a = some (.lst vs) ∧ RepL K C M H ts vs := by
  obtain ⟨e1, e2⟩ := cellL_of e
  obtain ⟨b, q1, q2⟩ := p.cells k ts e1
  rw [h] at q1
  cases q1
  exact q2.lst e2
theorem insD_of {c : String} {d : D} {k : Nat} {r : List D} (e : insD δ c d = some (k, r)) : d = .cell k ∧ δ[k]? = some (.ty c :: r) ∧ c ≠ "dict" := by
  unfold insD at e
  split at e
  · rw [Option.bind_eq_some_iff] at e
    obtain ⟨us, e1, e2⟩ := e
    split at e2
    · split at e2
      · rename_i h
        cases e2
        rw [← h.1]
        exact ⟨rfl, e1, h.2⟩
      · cases e2
    · cases e2
  · cases e
theorem Pre.insD (p : Pre K Tb C M H δ) {c : String} {d : D} {k : Nat} {r : List D} {v : V} (e : insD δ c d = some (k, r)) (h : Rep K C M H d v) : ∃ a dx fv, v = .ref a ∧ C[k]? = some a ∧ H a = some (.ins (clsA K c) dx fv) ∧ RepF K C M H r fv := by
  obtain ⟨e1, e2, e3⟩ := insD_of e
  subst e1
  unfold Rep at h
  obtain ⟨a, h1, h2⟩ := h
  obtain ⟨b, q1, q2⟩ := p.cells k _ e2
  rw [h2] at q1
  cases q1
  obtain ⟨dx, fv, q3, q4⟩ := q2.ins e3
  exact ⟨a, dx, fv, h1, h2, q3, q4⟩
theorem dicD_of {d : D} {k : Nat} {r : List D} (e : dicD δ d = some (k, r)) : d = .cell k ∧ δ[k]? = some (.ty "dict" :: r) := by
  unfold Mini.dicD at e
  split at e
  · rw [Option.bind_eq_some_iff] at e
    obtain ⟨us, e1, e2⟩ := e
    split at e2
    · split at e2
      · rename_i h
        cases e2
        rw [← h]
        exact ⟨rfl, e1⟩
      · cases e2
    · cases e2
  · cases e
theorem Pre.dicD (p : Pre K Tb C M H δ) {d : D} {k : Nat} {r : List D} {v : V} (e : dicD δ d = some (k, r)) (h : Rep K C M H d v) : ∃ a vs xs, v = .ref a ∧ C[k]? = some a ∧ H a = some (DM.dO a xs) ∧ RepL K C M H r vs ∧ DicX r vs xs ∧ (xs.map (·.1)).Nodup := by
  obtain ⟨e1, e2⟩ := dicD_of e
  subst e1
  unfold Rep at h
  obtain ⟨a, h1, h2⟩ := h
  obtain ⟨b, q1, q2⟩ := p.cells k _ e2
  rw [h2] at q1
  cases q1
  obtain ⟨vs, xs, q3, q4, q5⟩ := q2.dic
  exact ⟨a, vs, xs, h1, h2, q3, q4, q5⟩
theorem intsK_eq : ∀ {ts : List D} {ks : List Int}, intsK ts = some ks → ts = ks.map .int
  | [], ks, e => by cases e; rfl
  | t :: ts, ks, e => by
    cases t <;> first | cases e; done | skip
    case int i =>
    have e : (intsK ts).map (i :: ·) = some ks := e
    obtain ⟨l, h1, h2⟩ := Option.map_eq_some_iff.mp e
    rw [← h2, intsK_eq h1]
    rfl
theorem keyI_eq {d : D} {ks : List Int} (e : keyI d = some ks) : d = .tup (ks.map .int) := by
  cases d <;> first | cases e; done | skip
  case tup ts => rw [intsK_eq (show intsK ts = some ks from e)]
theorem intsK_map : ∀ ks : List Int, intsK (ks.map .int) = some ks
  | [] => rfl
  | k :: ks => by
    show (intsK (ks.map .int)).map (k :: ·) = _
    rw [intsK_map ks]; rfl
theorem keyI_map (ks : List Int) : keyI (.tup (ks.map .int)) = some ks := intsK_map ks
theorem repI : ∀ {ks : List Int} {vs : List V}, RepL K C M H (ks.map .int) vs → vs = ks.map V.int
  | [], vs, h => by unfold RepL at h; exact h
  | k :: ks, vs, h => by
    rw [List.map_cons] at h
    unfold RepL at h
    obtain ⟨v, r, rfl, h1, h2⟩ := h
    unfold Rep at h1
    rw [h1, repI h2]; rfl
theorem key_rep {d : D} {ks : List Int} {v : V} (e : keyI d = some ks) (h : Rep K C M H d v) : ∃ b, v = .ref b ∧ SqT K H b (ks.map V.int) := by
  rw [keyI_eq e] at h
  unfold Rep at h
  obtain ⟨b, vs, h1, h2, h3⟩ := h
  rw [repI h3] at h2
  exact ⟨b, h1, h2⟩
theorem DicX.len : ∀ {r : List D} {vs : List V} {xs : DM.Ens}, DicX r vs xs → r.length = 2 * xs.length
  | [], vs, xs, x => by rw [x.2]; rfl
  | [d0], vs, xs, x => x.elim
  | d0 :: d :: r, vs, xs, ⟨ks, b, v, u, vs', xs', e1, e2, e3, e4, x⟩ => by
    have := x.len
    rw [e3, List.length_cons, List.length_cons, List.length_cons]; omega
theorem DicX.ks : ∀ {r : List D} {vs : List V} {xs : DM.Ens}, RepL K C M H r vs → DicX r vs xs → DM.KS K H xs
  | [], vs, xs, _, x => by rw [x.2]; exact fun y hy => by cases hy
  | [d0], vs, xs, _, x => x.elim
  | d0 :: d :: r, vs, xs, h, ⟨ks, b, v, u, vs', xs', e1, e2, e3, e4, x⟩ => by
    subst e1 e2 e3
    unfold RepL at h
    obtain ⟨v0, w0, hv, h1, h2⟩ := h
    cases hv
    unfold RepL at h2
    obtain ⟨v1, w1, hv1, h3, h4⟩ := h2
    cases hv1
    intro y hy
    rcases List.mem_cons.mp hy with z | z
    · subst z
      obtain ⟨b', e, s⟩ := key_rep (keyI_map ks) h1
      cases e
      exact s
    · exact DicX.ks h4 x y z
theorem atKey_cons (x : List Int × Addr × Value) (xs : DM.Ens) (k : List Int) : atKey (x :: xs) k = if x.1 = k then some x.2 else atKey xs k := by
  unfold atKey
  rw [List.find?_cons]
  by_cases h : x.1 = k
  · rw [if_pos h, decide_eq_true h]; rfl
  · rw [if_neg h, decide_eq_false h]
theorem DicX.look : ∀ {r : List D} {vs : List V} {xs : DM.Ens} (k : List Int), RepL K C M H r vs → DicX r vs xs → (∀ d, dLook k r = some d → ∃ p v, atKey xs k = some p ∧ RelV v p.2 ∧ Rep K C M H d v) ∧ (dLook k r = none → atKey xs k = none)
  | [], vs, xs, k, _, x => by
    obtain ⟨x1, x2⟩ := x
    subst x2
    exact ⟨fun d e => (by cases e), fun _ => rfl⟩
  | [d0], vs, xs, k, _, x => x.elim
  | d0 :: d :: r, vs, xs, k, h, ⟨ks, b, v, u, vs', xs', e1, e2, e3, e4, x⟩ => by
    subst e1 e2 e3
    unfold RepL at h
    obtain ⟨v0, w0, hv, h1, h2⟩ := h
    cases hv
    unfold RepL at h2
    obtain ⟨v1, w1, hv1, h3, h4⟩ := h2
    cases hv1
    obtain ⟨i1, i2⟩ := DicX.look k h4 x
    have el : dLook k (.tup (ks.map .int) :: d :: r) = if ks = k then some d else dLook k r := by
      show (if keyI (.tup (ks.map .int)) = some k then some d else dLook k r) = _
      rw [keyI_map]
      by_cases hk : ks = k
      · rw [if_pos hk, if_pos (by rw [hk])]
      · rw [if_neg hk, if_neg (fun z => hk (Option.some.inj z))]
    rw [el, atKey_cons]
    by_cases hk : ks = k
    · rw [if_pos hk, if_pos hk]
      exact ⟨fun d' e => by cases e; exact ⟨_, v, rfl, e4, h3⟩, fun e => by cases e⟩
    · rw [if_neg hk, if_neg hk]
      exact ⟨i1, i2⟩
theorem storedH_cons (x : List Int × Addr × Value) (xs : DM.Ens) (k : List Int) (b : Addr) (u : Value) (hn : k ∉ xs.map (·.1) ∨ x.1 ≠ k) : storedH (x :: xs) k b u = if x.1 = k then putAt k u x :: xs else x :: storedH xs k b u := by
  unfold storedH
  rw [atKey_cons]
  by_cases hk : x.1 = k
  · rw [if_pos hk, if_pos hk, if_pos (show (some x.2).isSome = true from rfl), List.map_cons, map_putAt_of_not_mem xs k u (hn.resolve_right fun z => z hk)]
  · rw [if_neg hk, if_neg hk]
    split
    · rw [List.map_cons]
      congr 1
      unfold putAt
      rw [if_neg hk]
    · rfl
theorem nodup_put {xs : DM.Ens} (k : List Int) (b : Addr) (u : Value) (n : (xs.map (·.1)).Nodup) : ((storedH xs k b u).map (·.1)).Nodup := by
  cases h : atKey xs k with
  | some p => rw [storedH_old h, keys_map_putAt]; exact n
  | none =>
    rw [storedH_new h, List.map_append]
    refine List.nodup_append.mpr ⟨n, by simp, fun x hx y hy e => ?_⟩
    simp only [List.map_cons, List.map_nil, List.mem_singleton] at hy
    rw [e, hy] at hx
    obtain ⟨z, hz, ez⟩ := List.mem_map.mp hx
    unfold atKey at h
    have := List.find?_eq_none.mp (Option.map_eq_none_iff.mp h) z hz
    exact this (by simpa using ez)
theorem DicX.put : ∀ {r : List D} {vs : List V} {xs : DM.Ens} {k : List Int} {y : D} {vy : V} {b : Addr} {u : Value}, RepL K C M H r vs → DicX r vs xs → (xs.map (·.1)).Nodup → SqT K H b (k.map V.int) → Rep K C M H y vy → RelV vy u →
    ∃ vs', RepL K C M H (dPut k y r) vs' ∧ DicX (dPut k y r) vs' (storedH xs k b u)
  | [], vs, xs, k, y, vy, b, u, h, x, _, hb, hy, ry => by
    obtain ⟨x1, x2⟩ := x
    subst x2
    refine ⟨[.ref b, vy], repL_cons ?_ (.one hy), k, b, vy, u, [], [], rfl, rfl, rfl, ry, rfl, rfl⟩
    unfold Rep
    have : ∀ ks : List Int, RepL K C M H (ks.map .int) (ks.map V.int) := fun ks => by
      induction ks with
      | nil => exact repL_nil
      | cons a ks ih => exact repL_cons (by unfold Rep; rfl) ih
    exact ⟨b, _, rfl, hb, this k⟩
  | [d0], vs, xs, k, y, vy, b, u, h, x, _, _, _, _ => x.elim
  | d0 :: d :: r, vs, xs, k, y, vy, b, u, h, ⟨ks, c, v, w, vs', xs', e1, e2, e3, e4, x⟩, nd, hb, hy, ry => by
    subst e1 e2 e3
    unfold RepL at h
    obtain ⟨v0, w0, hv, h1, h2⟩ := h
    cases hv
    unfold RepL at h2
    obtain ⟨v1, w1, hv1, h3, h4⟩ := h2
    cases hv1
    rw [List.map_cons, List.nodup_cons] at nd
    have el : dPut k y (.tup (ks.map .int) :: d :: r) = if ks = k then .tup (ks.map .int) :: y :: r else .tup (ks.map .int) :: d :: dPut k y r := by
      show (if keyI (.tup (ks.map .int)) = some k then .tup (ks.map .int) :: y :: r else .tup (ks.map .int) :: d :: dPut k y r) = _
      rw [keyI_map]
      by_cases hk : ks = k
      · rw [if_pos hk, if_pos (by rw [hk])]
      · rw [if_neg hk, if_neg (fun z => hk (Option.some.inj z))]
    by_cases hk : ks = k
    · rw [el, if_pos hk, storedH_cons _ _ _ _ _ (.inl (by rw [← hk]; exact nd.1)), if_pos hk]
      refine ⟨.ref c :: vy :: vs', repL_cons h1 (repL_cons hy h4), ks, c, vy, u, vs', xs', rfl, rfl, ?_, ry, x⟩
      unfold putAt
      rw [if_pos hk]
    · rw [el, if_neg hk, storedH_cons _ _ _ _ _ (.inr hk), if_neg hk]
      obtain ⟨ws, i1, i2⟩ := DicX.put h4 x nd.2 hb hy ry
      exact ⟨.ref c :: v :: ws, repL_cons h1 (repL_cons h3 i1), ks, c, v, w, ws, _, rfl, rfl, rfl, e4, i2⟩
theorem RepF.get : ∀ {r : List D} {fv : List (Str × V)} {f : Str} {d : D}, RepF K C M H r fv → getF r f = some d → ∃ v, fv.lookup f = some v ∧ Rep K C M H d v
  | [], fv, f, d, h, e => by cases e
  | [d0], fv, f, d, h, e => by cases d0 <;> cases e
  | d0 :: d1 :: r, fv, f, d, h, e => by
    cases d0 <;> first | cases e; done | skip
    case str g =>
    obtain ⟨v, w, e1, h1, h2⟩ := h
    subst e1
    have e : (if g = f then some d1 else getF r f) = some d := e
    split at e
    · rename_i hg
      cases e
      subst hg
      exact ⟨v, by simp [List.lookup], h1⟩
    · rename_i hg
      obtain ⟨u, q1, q2⟩ := RepF.get h2 e
      refine ⟨u, ?_, q2⟩
      have hb : (f == g) = false := by simpa using fun z => hg z.symm
      simp only [List.lookup, hb]
      exact q1
theorem RepF.none : ∀ {r : List D} {fv : List (Str × V)} {f : Str}, RepF K C M H r fv → getF r f = Option.none → fv.lookup f = Option.none
  | [], fv, f, h, e => by rw [show fv = [] from h]; rfl
  | [d0], fv, f, h, e => by cases d0 <;> exact h.elim
  | d0 :: d1 :: r, fv, f, h, e => by
    cases d0 <;> first | exact h.elim | skip
    case str g =>
    obtain ⟨v, w, e1, h1, h2⟩ := h
    subst e1
    have e : (if g = f then some d1 else getF r f) = Option.none := e
    split at e
    · cases e
    · rename_i hg
      have hb : (f == g) = false := by simpa using fun z => hg z.symm
      simp only [List.lookup, hb]
      exact RepF.none h2 e
theorem RepF.put {f : Str} {y : D} {v : V} (hy : Rep K C M H y v) : ∀ {r : List D} {fv : List (Str × V)}, RepF K C M H r fv → RepF K C M H (setF f y r) (putF f v fv)
  | [], fv, h => by
    rw [show fv = [] from h]
    exact ⟨v, [], rfl, hy, rfl⟩
  | [d0], fv, h => by cases d0 <;> exact h.elim
  | d0 :: d1 :: r, fv, h => by
    cases d0 <;> first | exact h.elim | skip
    case str g =>
    obtain ⟨u, w, e1, h1, h2⟩ := h
    subst e1
    show RepF K C M H (if g = f then .str g :: y :: r else .str g :: d1 :: setF f y r) (if g = f then (g, v) :: w else (g, u) :: putF f v w)
    by_cases hg : g = f
    · rw [if_pos hg, if_pos hg]
      exact ⟨v, w, rfl, hy, h2⟩
    · rw [if_neg hg, if_neg hg]
      exact ⟨u, _, rfl, h1, RepF.put hy h2⟩
theorem RepF.len : ∀ {r : List D} {fv : List (Str × V)}, RepF K C M H r fv → 2 * fv.length = r.length
  | [], fv, h => by rw [show fv = [] from h]; rfl
  | [d0], fv, h => by cases d0 <;> exact h.elim
  | d0 :: d1 :: r, fv, h => by
    cases d0 <;> first | exact h.elim | skip
    case str g =>
    obtain ⟨u, w, e1, h1, h2⟩ := h
    subst e1
    have := RepF.len h2
    simp only [List.length_cons]
    omega
theorem Pre.fresh (p : Pre K Tb C M H δ) {a : Addr} (h : H a = none) : ¬ M a ∧ a ∉ C := by
  refine ⟨fun z => ?_, fun z => ?_⟩
  · obtain ⟨xs, q, mo⟩ := p.mh a z
    rw [h] at q; cases q
  · obtain ⟨xs, q, _⟩ := p.cellH a z
    rw [h] at q; cases q
theorem le_of_all (h : ∀ b o, H b = some o → H' b = some o) : Le C H C H' := ⟨⟨[], by simp⟩, fun a z n => absurd z n, fun a o e _ _ => h a o e⟩
theorem upd_all {p : Addr} {o : HO} (h : H p = none) : ∀ b u, H b = some u → upd H p o b = some u := fun b u e => by
  rw [upd_ne (ne_of_none e h)]; exact e
theorem Pre.all (p : Pre K Tb C M H δ) (h : ∀ b o, H b = some o → H' b = some o) : Pre K Tb C M H' δ := by
  refine ⟨p.tabs.ext h, p.nd, p.len, p.cm, fun a m => ?_, fun k ts e => ?_⟩
  · obtain ⟨xs, q, mo⟩ := p.mh a m
    exact ⟨xs, h _ _ q, mo⟩
  · obtain ⟨a, e1, r⟩ := p.cells k ts e
    exact ⟨a, e1, r.map (fun o _ => h a o) (RepL.step p.cellH (le_of_all h) (fun a z => .inl z))⟩
theorem Pre.newTup (p : Pre K Tb C M H δ) {ts : List D} {vs : List V} {q : Addr} (r : RepL K C M H ts vs) (h : H q = none) :
    Le C H C (upd H q (.tup vs)) ∧ Pre K Tb C M (upd H q (.tup vs)) δ ∧ Rep K C M (upd H q (.tup vs)) (.tup ts) (.ref q) := by
  have u := upd_all (o := .tup vs) h
  refine ⟨le_of_all u, p.all u, ?_⟩
  unfold Rep
  exact ⟨q, vs, rfl, SqT.of upd_same, RepL.step p.cellH (le_of_all u) (fun a z => .inl z) ts vs r⟩
theorem Pre.newLst (p : Pre K Tb C M H δ) {ts : List D} {vs : List V} {q : Addr} (r : RepL K C M H ts vs) (h : H q = none) :
    Le C H C (upd H q (.lst vs)) ∧ Pre K Tb C M (upd H q (.lst vs)) δ ∧ Rep K C M (upd H q (.lst vs)) (.lst ts) (.ref q) := by
  have u := upd_all (o := .lst vs) h
  obtain ⟨f1, f2⟩ := p.fresh h
  refine ⟨le_of_all u, p.all u, ?_⟩
  unfold Rep
  exact ⟨q, vs, rfl, f1, f2, upd_same, RepL.step p.cellH (le_of_all u) (fun a z => .inl z) ts vs r⟩
theorem Pre.newTab (p : Pre K Tb C M H δ) {ks : List Str} {ts : List D} {vs : List V} {q : Addr} (r : RepL K C M H ts vs) (h : H q = none) :
    Le C H C (upd H q (.dK (tabK ks vs))) ∧ Pre K Tb C M (upd H q (.dK (tabK ks vs))) δ ∧ Rep K C M (upd H q (.dK (tabK ks vs))) (.tab ks ts) (.ref q) := by
  have u := upd_all (o := .dK (tabK ks vs)) h
  obtain ⟨f1, f2⟩ := p.fresh h
  refine ⟨le_of_all u, p.all u, ?_⟩
  unfold Rep
  exact ⟨q, vs, rfl, f1, f2, upd_same, RepL.step p.cellH (le_of_all u) (fun a z => .inl z) ts vs r⟩

def Frs (K : PySem.W.Frag) (Tb : List (Addr × Str)) (M : Addr → Prop) (H : Hp) (C' : List Addr) (H' : Hp) (δ : Dl) (t : D) (v : V) : Prop :=
  ∀ ts, t = .lst ts → ∃ a vs, v = .ref a ∧ NT H a ∧ a ∉ C' ∧ H' a = some (.lst vs) ∧ Pre K Tb C' (fun x => M x ∨ x = a) H' δ ∧ RepL K C' (fun x => M x ∨ x = a) H' ts vs
theorem Frs.back {t : D} {v : V} {C1 : List Addr} {H1 : Hp} (l : Le C H C1 H1) (l1 : Le C1 H1 C' H') (f : Frs K Tb M H1 C' H' δ t v) : Frs K Tb M H C' H' δ t v := fun ts e => by
  obtain ⟨a, vs, h1, h2, h3, h4⟩ := f ts e
  exact ⟨a, vs, h1, h2.back l.ext (fun z => h3 (l1.mem (l.mem z))), h3, h4⟩
def Post (K : PySem.W.Frag) (Tb : List (Addr × Str)) (fr : Bool) (C : List Addr) (M : Addr → Prop) (H : Hp) (δ : Dl) (t : D) (Q : VK) : Prop :=
  ∀ C' H' v, Le C H C' H' → Pre K Tb C' M H' δ → Rep K C' M H' t v → (fr = true → Frs K Tb M H C' H' δ t v) → Q v H'
theorem Post.here {t : D} {Q : VK} {v : V} (q : Post K Tb false C M H δ t Q) (p : Pre K Tb C M H δ) (r : Rep K C M H t v) : Q v H := q C H v (Le.refl C H) p r (fun z => by cases z)
theorem Post.hereN {t : D} {Q : VK} {v : V} {fr : Bool} (q : Post K Tb fr C M H δ t Q) (p : Pre K Tb C M H δ) (r : Rep K C M H t v) (n : ∀ ts, t ≠ .lst ts) : Q v H := q C H v (Le.refl C H) p r (fun _ ts e => absurd e (n ts))
theorem Post.tup {ts : List D} {vs : List V} {Q : VK} {fr : Bool} (q : Post K Tb fr C M H δ (.tup ts) Q) (p : Pre K Tb C M H δ) (r : RepL K C M H ts vs) : ∀ a, H a = none → Q (.ref a) (upd H a (.tup vs)) := fun a ha => by
  obtain ⟨l, p', r'⟩ := p.newTup r ha
  exact q C _ _ l p' r' (fun _ ts e => by cases e)
theorem Post.lst {ts : List D} {vs : List V} {Q : VK} {fr : Bool} (q : Post K Tb fr C M H δ (.lst ts) Q) (p : Pre K Tb C M H δ) (r : RepL K C M H ts vs) : ∀ a, H a = none → Q (.ref a) (upd H a (.lst vs)) := fun a ha => by
  obtain ⟨l, p', r'⟩ := p.newLst r ha
  refine q C _ _ l p' r' (fun _ us e => ?_)
  cases e
  obtain ⟨f1, f2⟩ := p.fresh ha
  have hm : ∀ x, (M x ∨ x = a) → M x ∨ NT H x := fun x z => z.elim .inl fun e => .inr (by rw [e]; exact NT.of_none ha)
  refine ⟨a, vs, rfl, NT.of_none ha, f2, upd_same, ⟨p'.tabs, p'.nd, p'.len, fun x hx z => ?_, fun x z => ?_, fun k us e => ?_⟩, RepL.step p.cellH l hm ts vs r⟩
  · rcases z with z | z
    · exact p.cm x hx z
    · rw [z] at hx; exact f2 hx
  · rcases z with z | z
    · exact p'.mh x z
    · rw [z]; exact ⟨_, upd_same, MO.lst⟩
  · obtain ⟨b, e1, r2⟩ := p.cells k us e
    exact ⟨b, e1, r2.map (fun o _ => upd_all ha b o) (RepL.step p.cellH l hm)⟩

theorem rep_non {v : V} (h : Rep K C M H .non v) : v = .non := by unfold Rep at h; exact h
theorem rep_bl {b : Bool} {v : V} (h : Rep K C M H (.bl b) v) : v = .bl b := by unfold Rep at h; exact h
theorem rep_int {i : Int} {v : V} (h : Rep K C M H (.int i) v) : v = .int i := by unfold Rep at h; exact h
theorem rep_str {i : Str} {v : V} (h : Rep K C M H (.str i) v) : v = .str i := by unfold Rep at h; exact h
theorem rep_ty {i : String} {v : V} (h : Rep K C M H (.ty i) v) : v = .ty i := by unfold Rep at h; exact h
theorem mk_non : Rep K C M H .non .non := by unfold Rep; rfl
theorem mk_bl {b : Bool} : Rep K C M H (.bl b) (.bl b) := by unfold Rep; rfl
theorem mk_int {i : Int} : Rep K C M H (.int i) (.int i) := by unfold Rep; rfl
theorem mk_str {i : Str} : Rep K C M H (.str i) (.str i) := by unfold Rep; rfl
theorem mk_ty {i : String} : Rep K C M H (.ty i) (.ty i) := by unfold Rep; rfl
theorem rep_tup {ts : List D} {v : V} (h : Rep K C M H (.tup ts) v) : ∃ a vs, v = .ref a ∧ SqT K H a vs ∧ RepL K C M H ts vs := by unfold Rep at h; exact h
theorem rep_lst {ts : List D} {v : V} (h : Rep K C M H (.lst ts) v) : ∃ a vs, v = .ref a ∧ ¬ M a ∧ a ∉ C ∧ H a = some (.lst vs) ∧ RepL K C M H ts vs := by unfold Rep at h; exact h
theorem rep_tab {ks : List Str} {ts : List D} {v : V} (h : Rep K C M H (.tab ks ts) v) : ∃ a vs, v = .ref a ∧ ¬ M a ∧ a ∉ C ∧ H a = some (.dK (tabK ks vs)) ∧ RepL K C M H ts vs := by unfold Rep at h; exact h
theorem rep_own {ts : List D} {v : V} (h : RepS K C M H (.own ts) v) : ∃ a vs, v = .ref a ∧ a ∉ C ∧ H a = some (.lst vs) ∧ RepL K C M H ts vs := h
theorem RepS.rep {d : D} {v : V} (h : RepS K C M H d v) (n : isOwn d = false) : Rep K C M H d v := by
  cases d
  case own ts => cases n
  all_goals exact h
theorem Rep.repS {d : D} {v : V} (h : Rep K C M H d v) : RepS K C M H d v := by
  cases d
  case own ts => unfold Rep at h; exact h.elim
  all_goals exact h
theorem RSL.repL : ∀ {ts : List D} {vs : List V}, RSL K C M H ts vs → ts.any isOwn = false → RepL K C M H ts vs
  | [], vs, h, n => by rw [show vs = [] from h]; exact repL_nil
  | t :: ts, vs, ⟨v, r, e, h1, h2⟩, n => by
    rw [List.any_cons, Bool.or_eq_false_iff] at n
    rw [e]; exact repL_cons (h1.rep n.1) (RSL.repL h2 n.2)
theorem RSL.length : ∀ {ts : List D} {vs : List V}, RSL K C M H ts vs → vs.length = ts.length
  | [], vs, h => by rw [show vs = [] from h]; rfl
  | t :: ts, vs, ⟨v, r, e, h1, h2⟩ => by rw [e, List.length_cons, List.length_cons, RSL.length h2]
theorem rep_frz {ts : List D} {v : V} (h : Rep K C M H (.frz ts) v) : ∃ a vs, v = .ref a ∧ FzK K C M H a vs ∧ RepL K C M H ts vs := by unfold Rep at h; exact h
theorem rep_cell {k : Nat} {v : V} (h : Rep K C M H (.cell k) v) : ∃ a, v = .ref a ∧ C[k]? = some a := by unfold Rep at h; exact h
theorem mk_tup {ts : List D} {a : Addr} {vs : List V} (h : SqT K H a vs) (r : RepL K C M H ts vs) : Rep K C M H (.tup ts) (.ref a) := by unfold Rep; exact ⟨a, vs, rfl, h, r⟩
theorem seqD_rep (p : Pre K Tb C M H δ) {d : D} {ts : List D} {v : V} (e : seqD δ d = some ts) (r : RepS K C M H d v) : ∃ a vs, v = .ref a ∧ (SqL K H a vs ∨ SqT K H a vs) ∧ RepL K C M H ts vs := by
  cases d <;> simp only [seqD] at e <;> first | cases e | skip
  case tup.refl => obtain ⟨a, vs, h1, h2, h3⟩ := rep_tup r; exact ⟨a, vs, h1, .inr h2, h3⟩
  case lst.refl => obtain ⟨a, vs, h1, _, _, h2, h3⟩ := rep_lst r; exact ⟨a, vs, h1, .inl (SqL.of h2), h3⟩
  case own.refl => obtain ⟨a, vs, h1, _, h2, h3⟩ := rep_own r; exact ⟨a, vs, h1, .inl (SqL.of h2), h3⟩
  case frz.refl => obtain ⟨a, vs, h1, h2, h3⟩ := rep_frz r; exact ⟨a, vs, h1, .inl h2.sq, h3⟩
  case cell k =>
    obtain ⟨a, h1, h2⟩ := rep_cell (K := K) (M := M) (H := H) (r.rep rfl)
    obtain ⟨vs, q2, q3⟩ := p.cellL e h2
    exact ⟨a, vs, h1, .inl (SqL.of q2), q3⟩
mutual
theorem dp_of : ∀ (t : D) (v : V) (d : PyData), Rep K C M H t v → dat t = some d → Dp K H v d
  | .non, v, d, r, e => by rw [rep_non r]; simp only [dat] at e; cases e; exact .non
  | .bl b, v, d, r, e => by rw [rep_bl r]; simp only [dat] at e; cases e; exact .bl b
  | .int b, v, d, r, e => by rw [rep_int r]; simp only [dat] at e; cases e; exact .int b
  | .str b, v, d, r, e => by rw [rep_str r]; simp only [dat] at e; cases e; exact .str b
  | .ty b, v, d, r, e => by simp only [dat] at e; cases e
  | .cell b, v, d, r, e => by simp only [dat] at e; cases e
  | .tab ks ts, v, d, r, e => by simp only [dat] at e; cases e
  | .tup ts, v, d, r, e => by
    obtain ⟨a, vs, h1, h2, h3⟩ := rep_tup r
    simp only [dat, Option.map_eq_some_iff] at e
    obtain ⟨ds, e1, e2⟩ := e
    rw [h1, ← e2]
    exact .tup h2 (dpL_of ts vs ds h3 e1)
  | .lst ts, v, d, r, e => by
    obtain ⟨a, vs, h1, _, _, h2, h3⟩ := rep_lst r
    simp only [dat, Option.map_eq_some_iff] at e
    obtain ⟨ds, e1, e2⟩ := e
    rw [h1, ← e2]
    exact .lst (SqL.of h2) (dpL_of ts vs ds h3 e1)
  | .own ts, v, d, r, e => by
    unfold Rep at r; exact r.elim
  | .frz ts, v, d, r, e => by
    obtain ⟨a, vs, h1, h2, h3⟩ := rep_frz r
    simp only [dat, Option.map_eq_some_iff] at e
    obtain ⟨ds, e1, e2⟩ := e
    rw [h1, ← e2]
    exact .lst h2.sq (dpL_of ts vs ds h3 e1)
theorem dpL_of : ∀ (ts : List D) (vs : List V) (ds : List PyData), RepL K C M H ts vs → datL ts = some ds → DpAll K H vs ds
  | [], vs, ds, r, e => by
    unfold RepL at r
    simp only [datL] at e
    cases e
    rw [r]; exact .nil
  | t :: ts, vs, ds, r, e => by
    unfold RepL at r
    obtain ⟨v, w, e0, r1, r2⟩ := r
    simp only [datL] at e
    split at e
    · rename_i d es q1 q2
      cases e
      rw [e0]
      exact .cons (dp_of t v d r1 q1) (dpL_of ts w es r2 q2)
    · cases e
end
theorem dpS_of {t : D} {v : V} {d : PyData} (r : RepS K C M H t v) (e : dat t = some d) : Dp K H v d := by
  cases t
  case own ts =>
    obtain ⟨a, vs, h1, _, h2, h3⟩ := rep_own r
    simp only [dat, Option.map_eq_some_iff] at e
    obtain ⟨ds, e1, e2⟩ := e
    rw [h1, ← e2]
    exact .lst (SqL.of h2) (dpL_of ts vs ds h3 e1)
  all_goals exact dp_of _ v d r e
end

section
variable {K : PySem.W.Frag} {Tb : List (Addr × Str)} {C : List Addr} {M : Addr → Prop} {H H' : Hp} {p : Addr}
structure Wr (H H' : Hp) (p : Addr) : Prop where
  was : ∃ o, H p = some o ∧ CO o
  oth : ∀ a o, a ≠ p → H a = some o → H' a = some o
mutual
theorem Rep.wr (hp : M p ∨ p ∈ C) (w : Wr H H' p) : ∀ (t : D) (v : V), Rep K C M H t v → Rep K C M H' t v
  | .non, v, h => by unfold Rep at h ⊢; exact h
  | .bl b, v, h => by unfold Rep at h ⊢; exact h
  | .int i, v, h => by unfold Rep at h ⊢; exact h
  | .str x, v, h => by unfold Rep at h ⊢; exact h
  | .ty n, v, h => by unfold Rep at h ⊢; exact h
  | .tup ts, v, h => by
    unfold Rep at h ⊢
    obtain ⟨a, vs, e, s, r⟩ := h
    obtain ⟨ws, q, co⟩ := w.was
    refine ⟨a, vs, e, ?_, RepL.wr hp w ts vs r⟩
    rcases s with (s | ⟨o, s⟩) | s
    · exact .inl (.inl (w.oth a _ (fun z => by rw [z, q] at s; cases s; exact CO.tup co) s))
    · exact .inl (.inr ⟨o, w.oth a _ (fun z => by rw [z, q] at s; cases s; exact CO.frz co) s⟩)
    · exact .inr s
  | .lst ts, v, h => by
    unfold Rep at h ⊢
    obtain ⟨a, vs, e, n, nc, s, r⟩ := h
    refine ⟨a, vs, e, n, nc, w.oth a _ (fun z => ?_) s, RepL.wr hp w ts vs r⟩
    rw [z] at n nc
    exact hp.elim n nc
  | .own ts, v, h => by unfold Rep at h; exact h.elim
  | .frz ts, v, h => by
    unfold Rep at h ⊢
    obtain ⟨a, vs, e, s, r⟩ := h
    obtain ⟨ws, q, co⟩ := w.was
    refine ⟨a, vs, e, ?_, RepL.wr hp w ts vs r⟩
    rcases s with ⟨o, s⟩ | ⟨n, nc, s⟩ | s
    · exact .inl ⟨o, w.oth a _ (fun z => by rw [z, q] at s; cases s; exact CO.frz co) s⟩
    · refine .inr (.inl ⟨n, nc, w.oth a _ (fun z => ?_) s⟩)
      rw [z] at n nc
      exact hp.elim n nc
    · exact .inr (.inr s)
  | .cell k, v, h => by unfold Rep at h ⊢; exact h
  | .tab ks ts, v, h => by
    unfold Rep at h ⊢
    obtain ⟨a, vs, e, n, nc, s, r⟩ := h
    refine ⟨a, vs, e, n, nc, w.oth a _ (fun z => ?_) s, RepL.wr hp w ts vs r⟩
    rw [z] at n nc
    exact hp.elim n nc
theorem RepL.wr (hp : M p ∨ p ∈ C) (w : Wr H H' p) : ∀ (ts : List D) (vs : List V), RepL K C M H ts vs → RepL K C M H' ts vs
  | [], vs, h => by unfold RepL at h ⊢; exact h
  | t :: ts, vs, h => by
    unfold RepL at h ⊢
    obtain ⟨v, r, e, h1, h2⟩ := h
    exact ⟨v, r, e, Rep.wr hp w t v h1, RepL.wr hp w ts r h2⟩
end
theorem dO_code {d c : Addr} {xs : DM.Ens} {q : Str} (e : DM.dO d xs = LamX.CodeO c q) : False := by
  have e := HO.ext.inj e
  have hg : ∀ (a : Addr) (o : Obj), (Heap.mk (Array.replicate (c + 1) (Obj.mk default none (.fields #[.none, .str q default]) #[])) {}).get? a = some o → o.data = .fields #[.none, .str q default] := fun a o h => by
    unfold Heap.get? at h
    simp only [Array.getElem?_replicate] at h
    by_cases hc : a < c + 1
    · simp only [hc, if_true] at h
      cases h; rfl
    · simp only [hc, if_false] at h
      cases h
  have h2 : DM.phI d xs (Heap.mk (Array.replicate (c + 1) (Obj.mk default none (.fields #[.none, .str q default]) #[])) {}) := by
    rw [e]
    refine ⟨Obj.mk default none (.fields #[.none, .str q default]) #[], _, default, ?_, rfl, rfl⟩
    unfold Heap.get?
    simp [Array.getElem?_replicate]
  obtain ⟨_, _, o, es, ep, h1, _, h3, _⟩ := h2
  have := hg _ _ h1
  rw [h3] at this
  cases this
theorem Wr.tabs (w : Wr H H' p) (t : LamX.Tabs Tb H) : LamX.Tabs Tb H' := fun x hx => by
  obtain ⟨ps, h1, h2, h3⟩ := t x hx
  obtain ⟨ws, q, co⟩ := w.was
  refine ⟨ps, w.oth _ _ (fun z => by rw [z, q] at h1; cases h1; exact co.nt _ rfl) h1, h2, fun pos cv hc => ?_⟩
  obtain ⟨c, e1, e2⟩ := h3 pos cv hc
  refine ⟨c, e1, w.oth _ _ (fun z => ?_) e2⟩
  rw [z, q] at e2
  rcases co with ⟨_, e⟩ | ⟨_, _, _, e⟩ | ⟨_, _, e⟩ | ⟨_, e⟩
  · subst e; unfold LamX.CodeO at e2; cases e2
  · subst e; unfold LamX.CodeO at e2; cases e2
  · subst e
    exact dO_code (Option.some.inj e2)
  · subst e; unfold LamX.CodeO at e2; cases e2
theorem Wr.mh (w : Wr H H' p) (hp : M p → ∃ o, H' p = some o ∧ MO o) (h : ∀ a, M a → ∃ o, H a = some o ∧ MO o) : ∀ a, M a → ∃ o, H' a = some o ∧ MO o := fun a m => by
  by_cases e : a = p
  · rw [e]; exact hp (by rw [← e]; exact m)
  · obtain ⟨xs, q, mo⟩ := h a m
    exact ⟨xs, w.oth a _ e q, mo⟩
end

def CMulY (i j : Int) : Prop := i.natAbs.log2 + j.natAbs.log2 < 134000000
theorem CMulY.ok {i j : Int} (h : CMulY i j) : IntMulOk i j := CMulX.ok (by
  unfold CMulY at h
  unfold CMulX Builtin.Int.intBits
  split <;> split <;> omega)
def BltOk (h : Heap) : Prop := ∃ mb, h.Ns builtinsNs mb ∧ ∀ x : Str, x ≠ "__name__" → mb x = bootBuiltins x
structure Sr0 (h : Heap) : Prop where
  statics : ∃ mc, h.Ns cStatics mc ∧ mc "sys.audit-hooks" = none ∧ mc "sys.dict" = none
  mods : ∃ mm, h.Ns sysModules mm ∧ mm "_pylong" = none
  main : ∃ mg bm ob, h.Ns mainGlobals mg ∧ mg "__builtins__" = some (.ref bm) ∧ h.get? bm = some ob ∧ ob.cls = .type "module" ∧ ob.dict = some builtinsNs
theorem Sr0.no {h : Heap} (s : Sr0 h) (b : BltOk h) : h.NoSeer := ⟨s.statics, s.mods, b, s.main⟩
def rFdv : R2 := rI (fun _ j => j ≠ 0) fun i j => .int (i.fdiv j)
def CDiv2 (_ j : Int) : Prop := j ≠ 0 ∧ j.natAbs.log2 < 9000
def rAddS : R2 := fun x y H Q => ∃ i j, x = .str i ∧ y = .str j ∧ i.length + j.length ≤ sizeLine ∧ Q (.str (i ++ j)) H
def rSubB : R2 := fun x y H Q => ∃ a b, x = .bl a ∧ y = .bl b ∧ Q (.int ((if a = true then (1 : Int) else 0) - (if b = true then (1 : Int) else 0))) H
theorem gives_subB (a b : Bool) : Gives (Builtin.«int.__sub__» ⟨[.bool a, .bool b], []⟩) (.int ((if a = true then (1 : Int) else 0) - (if b = true then (1 : Int) else 0))) :=
  .of_wp fun M A E s Q h => by obtain ⟨hp, g, d, tk, os⟩ := s; wp_walk; exact ⟨_, rfl, h⟩
theorem op_subB {X : Cx} : OpR X (binaryOp .Sub) rSubB := by
  intro pins s σ H x y v u Q I r1 r2 h
  obtain ⟨a, b, rfl, rfl, q⟩ := h
  obtain rfl : v = Value.bool a := r1
  obtain rfl : u = Value.bool b := r2
  exact binaryOp_gives (op := .Sub) (T := "bool") rfl rfl F.fills_bool_sub F.slot_bool_sub F.entry_int_sub (F.args_int_sub_2 _ _) (gives_subB a b) trivial ⟨.int _, H, I.tok _, ⟨_, rfl⟩, q⟩
theorem repZ_len (x : Str) (n : Nat) : (repZ x n).length = n * x.length := by
  have key : ∀ (n : Nat) (acc : Array Nat), (List.foldl (fun a b => a ++ b) acc (List.replicate n x.cps)).size = acc.size + n * x.cps.size := fun n => by
    induction n with
    | zero => intro acc; simp
    | succ n ih =>
      intro acc
      rw [List.replicate_succ, List.foldl_cons, ih, Array.size_append, Nat.succ_mul]
      omega
  show (List.foldl (fun a b => a ++ b) #[] (List.replicate n x.cps)).size = _
  rw [key]
  show 0 + _ = n * x.cps.size
  omega
def rRepZ : R2 := fun x y H Q => ∃ z i, x = .str z ∧ y = .int i ∧ ((2 ≤ i ∧ i ≤ 1000 ∧ 0 < z.length ∧ z.length ≤ 1000 ∧ Q (.str (repZ z i.toNat)) H) ∨ i = 1 ∧ Q (.str z) H)
theorem op_repZ {X : Cx} : OpR X (binaryOp .Mult) rRepZ := by
  intro pins s σ H x y v u Q I r1 r2 h
  obtain ⟨z, i, rfl, rfl, h⟩ := h
  obtain ⟨t, rfl⟩ := r1
  obtain ⟨t', rfl⟩ := r2
  rcases h with ⟨h1, h2, h3, h4, q⟩ | ⟨h1, q⟩
  · have n1 : (i == 1 || z.length == 0) = false := by
      rw [Bool.or_eq_false_iff]
      exact ⟨by simp; omega, by simp; omega⟩
    refine P.mul_str (by simp; omega) (fun _ _ => ?_) (fun _ _ => ?_) ?_
    · have : (9223372036854775 : Int) ≤ ((2 ^ 63 - 1 : Int) / i) := by
        refine (Int.le_ediv_iff_mul_le (by omega)).mpr ?_
        omega
      omega
    · unfold Builtin.Str.tooLong
      have : z.length * i.toNat ≤ 1000 * 1000 := Nat.mul_le_mul h4 (by omega)
      simp only [decide_eq_false_iff_not, sizeLine_eq]
      omega
    · rw [if_neg (by omega), n1]
      simp only [Bool.false_eq_true, if_false]
      have hl : (repZ z i.toNat).length ≤ sizeLine := by
        rw [repZ_len, sizeLine_eq]
        have : i.toNat * z.length ≤ 1000 * 1000 := Nat.mul_le_mul (by omega) h4
        omega
      refine ⟨hl, ?_⟩
      trace_state
      exact ⟨.str _, H, I.tok _, ⟨_, rfl⟩, q⟩
  · subst h1
    refine P.mul_str (by decide) (fun _ z => by simp at z) (fun _ z => by simp at z) ?_
    rw [if_neg (by decide)]
    simp only [beq_self_eq_true, Bool.true_or, if_true]
    exact ⟨.str _, H, I.tok _, ⟨_, rfl⟩, q⟩
def rBin (K : PySem.W.Frag) : Operator → R2
  | .Add => fun x y H Q => rI0 (fun i j => .int (i + j)) x y H Q ∨ rAddS x y H Q ∨ rCatA K x y H Q ∨ rCat x y H Q
  | .Sub => fun x y H Q => rI0 (fun i j => .int (i - j)) x y H Q ∨ rSubB x y H Q
  | .Mult => fun x y H Q => rI CMul (fun i j => .int (i * j)) x y H Q ∨ rI CMulY (fun i j => .int (i * j)) x y H Q ∨ rRep x y H Q ∨ rRepTA K x y H Q ∨ rRepZ x y H Q
  | .FloorDiv => rI CDiv2 fun i j => .int (i.fdiv j)
  | .Mod => rI (fun _ j => j ≠ 0) fun i j => .int (i.fmod j)
  | .Pow => rI CPow fun i j => .int (i ^ j.toNat)
  | _ => fun _ _ _ _ => False
section
variable {X : Cx}
theorem op_fdiv2 : OpR X (binaryOp .FloorDiv) (rI CDiv2 fun i j => .int (i.fdiv j)) := opI fun _ _ _ _ _ _ _ hc q => floordiv_int hc.1 q (.inl (PyProof.noPylong_of_log2 hc.2))
theorem op_mulY : OpR X (binaryOp .Mult) (rI CMulY fun i j => .int (i * j)) := opI fun _ _ _ _ _ _ _ hc q => mul_int q hc.ok
theorem op_fdvB (see : ∀ h : Heap, (∀ b o, X.base.get? b = some o → h.get? b = some o) → X.A.frames = some X.stack → BltOk X.base → SeerAt (model X.prog X.w) X.A h) (hd : X.A.depth + Builtin.pylongFrames < recursionLimit) : OpR X (binaryOp .FloorDiv) rFdv := by
  intro pins s σ H x y v u Q I rx ry h
  obtain ⟨i, j, rfl, rfl, hc, q⟩ := h
  obtain ⟨t, rfl⟩ := rx
  obtain ⟨t', rfl⟩ := ry
  exact floordiv_int hc ⟨.int (i.fdiv j), H, I.tok _, ⟨_, rfl⟩, q⟩ (.inr (PylongRoom.of I.nolimit hd (see _ I.bk I.ok.frames I.ok.mod.blt)))
theorem op_bin : ∀ o, OpR X (binaryOp o) (rBin X.K o)
  | .Add => op_add.or (op_add_str.or (op_catA.or op_cat))
  | .Sub => op_sub.or op_subB
  | .Mult => op_mul.or (op_mulY.or (op_rep.or (op_repTA.or op_repZ)))
  | .FloorDiv => op_fdiv2
  | .Mod => op_modN
  | .Pow => op_pow
  | .MatMult | .Div | .LShift | .RShift | .BitOr | .BitXor | .BitAnd => fun _ _ _ _ _ _ _ _ _ _ _ _ h => h.elim
def rAug : Operator → R2
  | .Add => fun x y H Q => rI0 (fun i j => .int (i + j)) x y H Q ∨ rAddS x y H Q
  | .Sub => rI0 fun i j => .int (i - j)
  | .Mult => fun x y H Q => rI CMul (fun i j => .int (i * j)) x y H Q ∨ rI CMulY (fun i j => .int (i * j)) x y H Q
  | .FloorDiv => rI CDiv2 fun i j => .int (i.fdiv j)
  | .Mod => rI (fun _ j => j ≠ 0) fun i j => .int (i.fmod j)
  | _ => fun _ _ _ _ => False
theorem iop_mulY : OpR X (inplaceOp .Mult) (rI CMulY fun i j => .int (i * j)) := opI fun _ _ _ _ _ _ _ hc q => imul_int q hc.ok
theorem iop_fdiv2 : OpR X (inplaceOp .FloorDiv) (rI CDiv2 fun i j => .int (i.fdiv j)) := opI fun _ _ _ _ _ _ _ hc q => ifloordiv_int hc.1 q (.inl (PyProof.noPylong_of_log2 hc.2))
theorem iop_mod2 : OpR X (inplaceOp .Mod) (rI (fun _ j => j ≠ 0) fun i j => .int (i.fmod j)) := opI fun _ _ _ _ _ _ _ hc q => imod_int hc q
theorem op_aug : ∀ o, OpR X (inplaceOp o) (rAug o)
  | .Add => iop_add.or iop_add_str
  | .Sub => iop_sub
  | .Mult => iop_mul.or iop_mulY
  | .FloorDiv => iop_fdiv2
  | .Mod => iop_mod2
  | .Pow | .MatMult | .Div | .LShift | .RShift | .BitOr | .BitXor | .BitAnd => fun _ _ _ _ _ _ _ _ _ _ _ _ h => h.elim
end
end Mini

namespace Mini
open PySem PySem.Spec PyProof.Rows L2
theorem line_eq : line = sizeLine := by rw [sizeLine_eq]; rfl
theorem log2_big {i : Int} (h : i.natAbs < big) : i.natAbs.log2 < 8990 := PySem.Flt.log2_lt_of (by decide) (by unfold big at h; exact h)
theorem small_of {i : Int} (h : Mini.small i = true) : -(2 ^ 64) < i ∧ i < 2 ^ 64 := by
  unfold Mini.small at h
  rw [Bool.and_eq_true] at h
  exact ⟨of_decide_eq_true h.1, of_decide_eq_true h.2⟩

def rInT (K : PySem.W.Frag) : R2 := fun x y H Q => ∃ d ds, Dp K H x d ∧ Dp K H y (.tuple ds) ∧ SeqAt.shaped d = true ∧ SeqAt.shaped (.tuple ds) = true ∧ Q (.bl (ds.any fun z => PyData.eqv z d)) H
def rNotInT (K : PySem.W.Frag) : R2 := fun x y H Q => ∃ d ds, Dp K H x d ∧ Dp K H y (.tuple ds) ∧ SeqAt.shaped d = true ∧ SeqAt.shaped (.tuple ds) = true ∧ Q (.bl (!ds.any fun z => PyData.eqv z d)) H
theorem op_inT {X : Cx} (hu : X.A.units + 65 < cLine) : OpR X (compareOp .In) (rInT X.K) := by
  intro pins s σ H x y v u Q I rx ry h
  obtain ⟨d, ds, hd, he, sd, se, q⟩ := h
  obtain ⟨as, r1⟩ := Dp.reads I d x v hd rx
  obtain ⟨bs, r2⟩ := Dp.reads I (.tuple ds) y u he ry
  exact SeqAt.in_tuple_reads r2 r1 (SeqAt.canLay_of_shaped se) (SeqAt.canLay_of_shaped sd) (room_in_shaped sd hu) ⟨.bl _, H, I, rfl, q⟩
theorem op_notInT {X : Cx} (hu : X.A.units + 65 < cLine) : OpR X (compareOp .NotIn) (rNotInT X.K) := by
  intro pins s σ H x y v u Q I rx ry h
  obtain ⟨d, ds, hd, he, sd, se, q⟩ := h
  obtain ⟨as, r1⟩ := Dp.reads I d x v hd rx
  obtain ⟨bs, r2⟩ := Dp.reads I (.tuple ds) y u he ry
  exact SeqAt.notIn_tuple_reads r2 r1 (SeqAt.canLay_of_shaped se) (SeqAt.canLay_of_shaped sd) (room_in_shaped sd hu) ⟨.bl _, H, I, rfl, q⟩
theorem _root_.L2.OpR.or' {X : Cx} {f : Value → Value → Sem Value} {r r' : R2} (h : OpR X f r) (h' : OpR X f r') : OpR X f (fun x y H Q => r x y H Q ∨ r' x y H Q) := by
  intro pins s σ H x y v u Q I rx ry hh
  exact hh.elim (h pins s σ H x y v u Q I rx ry) (h' pins s σ H x y v u Q I rx ry)
def rInTab : R2 := fun x y H Q => ∃ a o, y = .ref a ∧ DGet H a x o ∧ Q (.bl o.isSome) H
def rNotInTab : R2 := fun x y H Q => ∃ a o, y = .ref a ∧ DGet H a x o ∧ Q (.bl (!o.isSome)) H
def rIxTab : R2 := fun x y H Q => ∃ a v, x = .ref a ∧ DGet H a y (some v) ∧ Q v H
theorem op_inTab {X : Cx} (hu : X.A.units + 1 < cLine) : OpR X (compareOp .In) rInTab := by
  intro pins s σ H x y v u Q I rx ry h
  obtain ⟨a, o, rfl, g, q⟩ := h
  obtain rfl : u = Value.ref a := ry
  exact d_in hu I g rx fun s3 I3 => ⟨.bl o.isSome, H, I3, rfl, q⟩
theorem op_notInTab {X : Cx} (hu : X.A.units + 1 < cLine) : OpR X (compareOp .NotIn) rNotInTab := by
  intro pins s σ H x y v u Q I rx ry h
  obtain ⟨a, o, rfl, g, q⟩ := h
  obtain rfl : u = Value.ref a := ry
  exact d_notIn hu I g rx fun s3 I3 => ⟨.bl (!o.isSome), H, I3, rfl, q⟩
theorem ix_tab {X : Cx} (hu : X.A.units + 1 < cLine) : IxR X rIxTab := by
  intro value slice pins s σ H x y v u Q I rx ry h hs
  obtain ⟨a, w, rfl, g, q⟩ := h
  obtain rfl : v = Value.ref a := rx
  exact tail_any (dict_typeIs I g) PySem.F.slot_dict_getitem.lookup (d_getItem hu I g ry fun w' s3 I3 rw' => ⟨w, H, I3, rw', q⟩) hs
def rIx2 (K : PySem.W.Frag) : R2 := fun x y H Q => rIx K x y H Q ∨ rIxTab x y H Q
theorem ix_two {X : Cx} (hu : X.A.units + 1 < cLine) : IxR X (rIx2 X.K) := ix_seq.or (ix_tab hu)
def rCmp (K : PySem.W.Frag) : CmpOp → R2
  | .Eq => rEqD K
  | .NotEq => rNeD K
  | .Lt => rI0 fun i j => .bl (decide (i < j))
  | .LtE => rI0 fun i j => .bl (decide (i ≤ j))
  | .Gt => rI0 fun i j => .bl (decide (j < i))
  | .GtE => rI0 fun i j => .bl (decide (j ≤ i))
  | .Is => fun x y H Q => y = .non ∧ Q (.bl (decide (x = .non))) H
  | .IsNot => fun x y H Q => y = .non ∧ Q (.bl (!decide (x = .non))) H
  | .In => fun x y H Q => ((rInD K x y H Q ∨ rInT K x y H Q) ∨ ∃ (c : Nat) (z : Str), x = .str ⟨#[c]⟩ ∧ y = .str z ∧ Q (.bl (decide (c ∈ z.cps.toList))) H) ∨ rInTab x y H Q
  | .NotIn => fun x y H Q => ((rNotInD K x y H Q ∨ rNotInT K x y H Q) ∨ ∃ (c : Nat) (z : Str), x = .str ⟨#[c]⟩ ∧ y = .str z ∧ Q (.bl (!decide (c ∈ z.cps.toList))) H) ∨ rNotInTab x y H Q
theorem op_cmp {X : Cx} (hu : X.A.units + 65 < cLine) : ∀ o, OpR X (compareOp o) (rCmp X.K o)
  | .Eq => op_eqD (by omega)
  | .NotEq => op_neD (by omega)
  | .Lt => op_lt
  | .LtE => op_le
  | .Gt => op_gt
  | .GtE => op_ge
  | .Is => op_isN
  | .IsNot => op_notN
  | .In => (((op_inD hu).or' (op_inT hu)).or' op_in_sign).or' (op_inTab (by omega))
  | .NotIn => (((op_notInD hu).or' (op_notInT hu)).or' op_notIn_sign).or' (op_notInTab (by omega))
def rSl (K : PySem.W.Frag) : V → Option Int → Option Int → Hp → VK → Prop := fun x lo hi H Q => (rSlA K x lo hi H Q ∨ rSlL K x lo hi H Q) ∨ rSlS x lo hi H Q
theorem sl_all {X : Cx} : SlR X (rSl X.K) := (sl_tupA.or sl_list).or sl_str

section
variable {K : PySem.W.Frag} {Tb : List (Addr × Str)} {C : List Addr} {M : Addr → Prop} {H : Hp} {δ : Dl}
theorem mlst_rep {d : D} {ts : List D} {v : V} (r : RepS K C M H d v) (e : d = .lst ts ∨ d = .own ts) : ∃ a vs, v = .ref a ∧ H a = some (.lst vs) ∧ RepL K C M H ts vs := by
  rcases e with e | e <;> subst e
  · obtain ⟨a, vs, h1, _, _, h2, h3⟩ := rep_lst (r.rep rfl)
    exact ⟨a, vs, h1, h2, h3⟩
  · obtain ⟨a, vs, h1, _, h2, h3⟩ := rep_own r
    exact ⟨a, vs, h1, h2, h3⟩
theorem _root_.Mini.RepL.rep {ts : List D} {vs : List V} (r : RepL K C M H ts vs) : ∀ n : Nat, RepL K C M H (List.replicate n ts).flatten (List.replicate n vs).flatten
  | 0 => repL_nil
  | n + 1 => by
    rw [List.replicate_succ, List.replicate_succ, List.flatten_cons, List.flatten_cons]
    exact r.append (RepL.rep r n)
theorem cat_ok (p : Pre K Tb C M H δ) {x y : D} {a b : List D} {v u : V} {Q : VK} {fr : Bool} (hx : x = .lst a ∨ x = .own a) (hy : y = .lst b ∨ y = .own b) (hl : a.length + b.length ≤ line)
    (rx : RepS K C M H x v) (ry : RepS K C M H y u) (q : Post K Tb fr C M H δ (.lst (a ++ b)) Q) : rBin K .Add v u H Q := by
  obtain ⟨p1, v1, e1, h1, r1⟩ := mlst_rep rx hx
  obtain ⟨p2, v2, e2, h2, r2⟩ := mlst_rep ry hy
  exact .inr (.inr (.inr ⟨p1, p2, v1, v2, e1, e2, h1, h2, by rw [r1.length, r2.length, ← line_eq]; exact hl, q.lst p (r1.append r2)⟩))
theorem bin_ok (p : Pre K Tb C M H δ) {o : Operator} {x y z : D} {v u : V} {Q : VK} {fr : Bool} (e : binD o x y = some z) (rx : RepS K C M H x v) (ry : RepS K C M H y u) (hf : True)
    (q : Post K Tb fr C M H δ z Q) : rBin K o v u H Q := by
  unfold binD at e
  split at e
  · cases e
    exact .inl ⟨_, _, rep_int (rx.rep rfl), rep_int (ry.rep rfl), q.hereN p mk_int (fun _ z => by cases z)⟩
  · split at e
    · rename_i hl
      cases e
      exact .inr (.inl ⟨_, _, rep_str (rx.rep rfl), rep_str (ry.rep rfl), by rw [← line_eq]; exact hl, q.hereN p mk_str (fun _ z => by cases z)⟩)
    · cases e
  · split at e
    · rename_i a b hl
      cases e
      obtain ⟨p1, v1, e1, h1, r1⟩ := rep_tup (rx.rep rfl)
      obtain ⟨p2, v2, e2, h2, r2⟩ := rep_tup (ry.rep rfl)
      refine .inr (.inr (.inl ⟨p1, p2, v1, v2, e1, e2, h1, h2, by rw [r1.length, r2.length, ← line_eq]; exact hl, fun z => ?_, fun _ z => ?_, fun _ _ => q.tup p (r1.append r2)⟩))
      · have za : a = [] := by rw [← List.length_eq_zero_iff, ← r1.length, z]; rfl
        subst za
        rw [← e2]; exact q.hereN p (by simpa using ry.rep rfl) (fun _ z => by cases z)
      · have zb : b = [] := by rw [← List.length_eq_zero_iff, ← r2.length, z]; rfl
        subst zb
        rw [← e1]; exact q.hereN p (by simpa using rx.rep rfl) (fun _ z => by cases z)
    · cases e
  · split at e
    · rename_i hl; cases e; exact cat_ok p (.inl rfl) (.inl rfl) hl rx ry q
    · cases e
  · split at e
    · rename_i hl; cases e; exact cat_ok p (.inr rfl) (.inl rfl) hl rx ry q
    · cases e
  · split at e
    · rename_i hl; cases e; exact cat_ok p (.inl rfl) (.inr rfl) hl rx ry q
    · cases e
  · split at e
    · rename_i hl; cases e; exact cat_ok p (.inr rfl) (.inr rfl) hl rx ry q
    · cases e
  · cases e
    exact .inl ⟨_, _, rep_int (rx.rep rfl), rep_int (ry.rep rfl), q.hereN p mk_int (fun _ z => by cases z)⟩
  · cases e
    exact .inr ⟨_, _, rep_bl (rx.rep rfl), rep_bl (ry.rep rfl), q.hereN p mk_int (fun _ z => by cases z)⟩
  · split at e
    · rename_i hm
      cases e
      have q' := q.hereN p (v := .int _) mk_int (fun _ z => by cases z)
      unfold mulOk at hm
      rw [Bool.or_eq_true, Bool.or_eq_true] at hm
      rcases hm with (hm | hm) | hm
      · exact .inl ⟨_, _, rep_int (rx.rep rfl), rep_int (ry.rep rfl), .inl (small_of hm), q'⟩
      · exact .inl ⟨_, _, rep_int (rx.rep rfl), rep_int (ry.rep rfl), .inr (small_of hm), q'⟩
      · refine .inr (.inl ⟨_, _, rep_int (rx.rep rfl), rep_int (ry.rep rfl), ?_, q'⟩)
        have hm' := of_decide_eq_true hm
        exact hm'
    · cases e
  · split at e
    · rename_i a j hl
      cases e
      obtain ⟨p1, v1, e1, h1, r1⟩ := rep_tup (rx.rep rfl)
      rw [Bool.and_eq_true, Bool.and_eq_true, Bool.and_eq_true] at hl
      have hn : v1 ≠ [] := fun z => by
        have := r1.length
        rw [z] at this
        have ha : a = [] := List.eq_nil_of_length_eq_zero this.symm
        rw [ha] at hl
        cases hl.1.1.1
      refine .inr (.inr (.inr (.inl ⟨p1, _, v1, e1, rep_int (ry.rep rfl), h1, hn, of_decide_eq_true hl.1.1.2, of_decide_eq_true hl.1.2, by rw [r1.length]; exact of_decide_eq_true hl.2, fun e => ?_, fun _ => q.tup p (r1.rep _)⟩)))
      have ez : (List.replicate j.toNat a).flatten = a := by
        rw [e]
        show (a :: []).flatten = a
        simp
      rw [ez] at q
      rw [← e1]
      exact q.hereN p (rx.rep rfl) (fun _ z => by cases z)
    · cases e
  · split at e
    · rename_i a j hl
      cases e
      simp only [Bool.and_eq_true, decide_eq_true_eq] at hl
      exact .inr (.inr (.inr (.inr ⟨_, _, rep_str (rx.rep rfl), rep_int (ry.rep rfl), .inl ⟨hl.1.1.1, hl.1.1.2, hl.1.2, hl.2, q.hereN p mk_str (fun _ z => by cases z)⟩⟩)))
    · split at e
      · rename_i h
        cases e
        exact .inr (.inr (.inr (.inr ⟨_, _, rep_str (rx.rep rfl), rep_int (ry.rep rfl), .inr ⟨of_decide_eq_true h, q.hereN p mk_str (fun _ z => by cases z)⟩⟩)))
      · cases e
  · split at e
    · rename_i a j hl
      cases e
      obtain ⟨p1, v1, e1, h1, r1⟩ := mlst_rep rx (.inl rfl)
      unfold repOk at hl
      rw [Bool.and_eq_true, Bool.and_eq_true] at hl
      exact .inr (.inr (.inl ⟨p1, _, v1, e1, rep_int (ry.rep rfl), h1, of_decide_eq_true hl.1.1, of_decide_eq_true hl.1.2, by rw [r1.length, ← line_eq]; exact of_decide_eq_true hl.2, q.lst p (r1.rep _)⟩))
    · cases e
  · split at e
    · rename_i hm
      cases e
      unfold divOk at hm
      rw [Bool.and_eq_true] at hm
      refine ⟨_, _, rep_int (rx.rep rfl), rep_int (ry.rep rfl), ⟨of_decide_eq_true hm.1, ?_⟩, q.hereN p mk_int (fun _ z => by cases z)⟩
      have := log2_big (of_decide_eq_true hm.2)
      omega
    · cases e
  · split at e
    · cases e
    · rename_i hm
      cases e
      exact ⟨_, _, rep_int (rx.rep rfl), rep_int (ry.rep rfl), hm, q.hereN p mk_int (fun _ z => by cases z)⟩
  · split at e
    · rename_i hm
      cases e
      unfold powOk at hm
      rw [Bool.and_eq_true, Bool.and_eq_true] at hm
      refine ⟨_, _, rep_int (rx.rep rfl), rep_int (ry.rep rfl), ⟨of_decide_eq_true hm.1.1, of_decide_eq_true hm.1.2, ?_⟩, q.hereN p mk_int (fun _ z => by cases z)⟩
      have := small_of hm.2
      omega
    · cases e
  · cases e
theorem aug_ok {o : Operator} {x y z : D} {v u : V} {Q : VK} (e : augD o x y = some z) (rx : RepS K C M H x v) (ry : RepS K C M H y u) (q : ∀ w, Rep K C M H z w → Q w H) : rAug o v u H Q := by
  unfold augD at e
  split at e
  · cases e
    exact .inl ⟨_, _, rep_int (rx.rep rfl), rep_int (ry.rep rfl), q _ mk_int⟩
  · split at e
    · rename_i hl
      cases e
      exact .inr ⟨_, _, rep_str (rx.rep rfl), rep_str (ry.rep rfl), by rw [← line_eq]; exact hl, q _ mk_str⟩
    · cases e
  · cases e
    exact ⟨_, _, rep_int (rx.rep rfl), rep_int (ry.rep rfl), q _ mk_int⟩
  · split at e
    · rename_i hm
      cases e
      have q' := q _ mk_int
      unfold mulOk at hm
      rw [Bool.or_eq_true, Bool.or_eq_true] at hm
      rcases hm with (hm | hm) | hm
      · exact .inl ⟨_, _, rep_int (rx.rep rfl), rep_int (ry.rep rfl), .inl (small_of hm), q'⟩
      · exact .inl ⟨_, _, rep_int (rx.rep rfl), rep_int (ry.rep rfl), .inr (small_of hm), q'⟩
      · refine .inr ⟨_, _, rep_int (rx.rep rfl), rep_int (ry.rep rfl), ?_, q'⟩
        have hm' := of_decide_eq_true hm
        exact hm'
    · cases e
  · split at e
    · rename_i hm
      cases e
      unfold divOk at hm
      rw [Bool.and_eq_true] at hm
      refine ⟨_, _, rep_int (rx.rep rfl), rep_int (ry.rep rfl), ⟨of_decide_eq_true hm.1, ?_⟩, q _ mk_int⟩
      have := log2_big (of_decide_eq_true hm.2)
      omega
    · cases e
  · split at e
    · cases e
    · rename_i hm
      cases e
      exact ⟨_, _, rep_int (rx.rep rfl), rep_int (ry.rep rfl), hm, q _ mk_int⟩
  · cases e
theorem eq_ok {x y : D} {k : Bool} {v u : V} (e : eqD x y = some k) (rx : RepS K C M H x v) (ry : RepS K C M H y u) :
    ∃ d f, Dp K H v d ∧ Dp K H u f ∧ SeqAt.shaped d = true ∧ SeqAt.shaped f = true ∧ PyData.eqv d f = k := by
  unfold eqD at e
  split at e
  · rename_i d f q1 q2
    split at e
    · rename_i hs
      rw [Bool.and_eq_true] at hs
      cases e
      exact ⟨d, f, dpS_of rx q1, dpS_of ry q2, hs.1, hs.2, rfl⟩
    · cases e
  · cases e
theorem dat_str {x : D} {a : Str} (h : dat x = some (.str a)) : x = .str a := by
  cases x <;> first | (unfold dat at h; cases h; done) | skip
  case str => unfold dat at h; cases h; rfl
  case tup ts => unfold dat at h; cases e : datL ts <;> rw [e] at h <;> cases h
  case lst ts => unfold dat at h; cases e : datL ts <;> rw [e] at h <;> cases h
  case own ts => unfold dat at h; cases e : datL ts <;> rw [e] at h <;> cases h
  case frz ts => unfold dat at h; cases e : datL ts <;> rw [e] at h <;> cases h
theorem sgn_of {x z : Str} {k : Bool} (h : sgnIn x z = some k) : ∃ c, x = ⟨#[c]⟩ ∧ decide (c ∈ z.cps.toList) = k := by
  unfold sgnIn at h
  split at h
  · rename_i c e
    cases h
    refine ⟨c, ?_, rfl⟩
    cases x with
    | mk cps =>
      congr 1
      exact Array.toList_inj.mp e
  · cases h
theorem tab_rep {x : Str} : ∀ {ks : List Str} {ts : List D} {vs : List V}, RepL K C M H ts vs → (∀ t, tabGet ks ts x = some t → ∃ v, valV (tabK ks vs) (Sum.inr x) = some v ∧ Rep K C M H t v) ∧ (tabGet ks ts x = none → valV (tabK ks vs) (Sum.inr x) = none)
  | [], ts, vs, r => ⟨fun t h => by simp [tabGet] at h, fun _ => rfl⟩
  | k :: ks, [], vs, r => by
    unfold RepL at r
    subst r
    exact ⟨fun t h => by simp [tabGet] at h, fun _ => rfl⟩
  | k :: ks, t :: ts, vs, r => by
    unfold RepL at r
    obtain ⟨v, w, rfl, r1, r2⟩ := r
    obtain ⟨h1, h2⟩ := tab_rep (x := x) (ks := ks) r2
    have e1 : tabGet (k :: ks) (t :: ts) x = if k = x then some t else tabGet ks ts x := rfl
    have e2 : valV (tabK (k :: ks) (v :: w)) (Sum.inr x) = if k = x then some v else valV (tabK ks w) (Sum.inr x) := by
      show (List.find? _ ((Sum.inr k, v) :: tabK ks w)).map (·.2) = _
      rw [List.find?_cons]
      by_cases e : k = x
      · rw [if_pos e, e]
        simp
      · rw [if_neg e]
        have : decide ((Sum.inr k : Key) = Sum.inr x) = false := decide_eq_false fun z => e (Sum.inr.inj z)
        simp only [this]
        rfl
    rw [e1, e2]
    by_cases e : k = x
    · rw [if_pos e, if_pos e]
      exact ⟨fun t' h => by cases h; exact ⟨v, rfl, r1⟩, fun h => by cases h⟩
    · rw [if_neg e, if_neg e]
      exact ⟨h1, h2⟩
theorem tab_some {x : Str} {ks : List Str} {ts : List D} {vs : List V} (r : RepL K C M H ts vs) : (valV (tabK ks vs) (Sum.inr x)).isSome = (tabGet ks ts x).isSome := by
  obtain ⟨h1, h2⟩ := tab_rep (x := x) (ks := ks) r
  cases e : tabGet ks ts x with
  | none => rw [h2 e]; rfl
  | some t =>
    obtain ⟨v, e1, _⟩ := h1 t e
    rw [e1]
    rfl
theorem in_ok {x y : D} {k : Bool} {v u : V} (e : inD x y = some k) (rx : RepS K C M H x v) (ry : RepS K C M H y u) :
    (((∃ d ds, Dp K H v d ∧ Dp K H u (.list ds) ∧ SeqAt.shaped d = true ∧ SeqAt.shaped (.list ds) = true ∧ (ds.any fun z => PyData.eqv z d) = k) ∨
    ∃ d ds, Dp K H v d ∧ Dp K H u (.tuple ds) ∧ SeqAt.shaped d = true ∧ SeqAt.shaped (.tuple ds) = true ∧ (ds.any fun z => PyData.eqv z d) = k) ∨ ∃ (c : Nat) (z : Str), v = .str ⟨#[c]⟩ ∧ u = .str z ∧ decide (c ∈ z.cps.toList) = k) ∨ ∃ a o, u = .ref a ∧ DGet H a v o ∧ o.isSome = k := by
  unfold inD at e
  split at e
  · rename_i d ds q1 q2
    split at e
    · rename_i hs
      rw [Bool.and_eq_true] at hs
      cases e
      exact .inl (.inl (.inl ⟨d, ds, dpS_of rx q1, dpS_of ry q2, hs.1, hs.2, rfl⟩))
    · cases e
  · rename_i d ds q1 q2
    split at e
    · rename_i hs
      rw [Bool.and_eq_true] at hs
      cases e
      exact .inl (.inl (.inr ⟨d, ds, dpS_of rx q1, dpS_of ry q2, hs.1, hs.2, rfl⟩))
    · cases e
  · rename_i a b q1 q2
    have e1 := dat_str q1
    have e2 := dat_str q2
    subst e1
    subst e2
    obtain ⟨c, h1, h2⟩ := sgn_of e
    exact .inl (.inr ⟨c, b, by rw [rep_str (rx.rep rfl), h1], rep_str (ry.rep rfl), h2⟩)
  · unfold tabIn at e
    split at e
    · rename_i z ks ts _ _ _
      cases e
      obtain ⟨a, vs, h1, _, _, h2, h3⟩ := rep_tab (ry.rep rfl)
      refine .inr ⟨a, valV (tabK ks vs) (Sum.inr z), h1, ?_, tab_some h3⟩
      rw [rep_str (rx.rep rfl)]
      exact DGet.k (k := Sum.inr z) h2
    · cases e
theorem isN_of {x : D} {v : V} (r : RepS K C M H x v) : decide (v = V.non) = isNonD x := by
  cases x
  case non => rw [rep_non (r.rep rfl)]; rfl
  case bl => rw [rep_bl (r.rep rfl)]; rfl
  case int => rw [rep_int (r.rep rfl)]; rfl
  case str => rw [rep_str (r.rep rfl)]; rfl
  case ty => rw [rep_ty (r.rep rfl)]; rfl
  case tup => obtain ⟨a, _, e, _⟩ := rep_tup (r.rep rfl); rw [e]; rfl
  case lst => obtain ⟨a, _, e, _⟩ := rep_lst (r.rep rfl); rw [e]; rfl
  case own => obtain ⟨a, _, e, _⟩ := rep_own r; rw [e]; rfl
  case frz => obtain ⟨a, _, e, _⟩ := rep_frz (r.rep rfl); rw [e]; rfl
  case cell => obtain ⟨a, e, _⟩ := rep_cell (K := K) (M := M) (H := H) (r.rep rfl); rw [e]; rfl
  case tab => obtain ⟨a, _, e, _⟩ := rep_tab (r.rep rfl); rw [e]; rfl
theorem cmp_ok {o : CmpOp} {x y : D} {k : Bool} {v u : V} {Q : VK} (e : cmpD o x y = some k) (rx : RepS K C M H x v) (ry : RepS K C M H y u) (q : Q (.bl k) H) : rCmp K o v u H Q := by
  unfold cmpD at e
  split at e
  · obtain ⟨d, f, h1, h2, h3, h4, h5⟩ := eq_ok e rx ry
    exact ⟨d, f, h1, h2, h3, h4, by rw [h5]; exact q⟩
  · rw [Option.map_eq_some_iff] at e
    obtain ⟨k', e, e'⟩ := e
    obtain ⟨d, f, h1, h2, h3, h4, h5⟩ := eq_ok e rx ry
    exact ⟨d, f, h1, h2, h3, h4, by rw [h5, e']; exact q⟩
  iterate 4
    · cases e
      exact ⟨_, _, rep_int (rx.rep rfl), rep_int (ry.rep rfl), q⟩
  · rcases in_ok e rx ry with ((⟨d, ds, h1, h2, h3, h4, h5⟩ | ⟨d, ds, h1, h2, h3, h4, h5⟩) | ⟨c, z, h1, h2, h5⟩) | ⟨a, o, h1, h2, h5⟩
    · exact .inl (.inl (.inl ⟨d, ds, h1, h2, h3, h4, by rw [h5]; exact q⟩))
    · exact .inl (.inl (.inr ⟨d, ds, h1, h2, h3, h4, by rw [h5]; exact q⟩))
    · exact .inl (.inr ⟨c, z, h1, h2, by rw [h5]; exact q⟩)
    · exact .inr ⟨a, o, h1, h2, by rw [h5]; exact q⟩
  · rw [Option.map_eq_some_iff] at e
    obtain ⟨k', e, e'⟩ := e
    rcases in_ok e rx ry with ((⟨d, ds, h1, h2, h3, h4, h5⟩ | ⟨d, ds, h1, h2, h3, h4, h5⟩) | ⟨c, z, h1, h2, h5⟩) | ⟨a, o, h1, h2, h5⟩
    · exact .inl (.inl (.inl ⟨d, ds, h1, h2, h3, h4, by rw [h5, e']; exact q⟩))
    · exact .inl (.inl (.inr ⟨d, ds, h1, h2, h3, h4, by rw [h5, e']; exact q⟩))
    · exact .inl (.inr ⟨c, z, h1, h2, by rw [h5, e']; exact q⟩)
    · exact .inr ⟨a, o, h1, h2, by rw [h5, e']; exact q⟩
  · refine ⟨rep_non (ry.rep rfl), ?_⟩
    rw [isN_of rx]
    cases e
    exact q
  · refine ⟨rep_non (ry.rep rfl), ?_⟩
    rw [isN_of rx]
    cases e
    exact q
  · cases e
theorem tru_ok {x : D} {k : Bool} {v : V} (e : truthD x = some k) (r : RepS K C M H x v) : TruV K v H k := by
  have emp : ∀ {ts : List D} {vs : List V}, RepL K C M H ts vs → (!ts.isEmpty) = !vs.isEmpty := fun {ts vs} h => by
    have := h.length
    cases ts <;> cases vs <;> first | rfl | (simp at this)
  cases x <;> simp only [truthD] at e <;> first | cases e | skip
  case non.refl => rw [rep_non (r.rep rfl)]; rfl
  case bl.refl => rw [rep_bl (r.rep rfl)]; rfl
  case int.refl => rw [rep_int (r.rep rfl)]; rfl
  case str s =>
    split at e
    · rename_i hl
      cases e
      rw [rep_str (r.rep rfl)]
      exact ⟨by rw [← line_eq]; exact hl, rfl⟩
    · cases e
  case tup.refl => obtain ⟨a, vs, e, h, h2⟩ := rep_tup (r.rep rfl); rw [e, emp h2]; exact .inr (.inl ⟨vs, h, rfl⟩)
  case lst.refl => obtain ⟨a, vs, e, _, _, h, h2⟩ := rep_lst (r.rep rfl); rw [e, emp h2]; exact .inl ⟨vs, SqL.of h, rfl⟩
  case own.refl => obtain ⟨a, vs, e, _, h, h2⟩ := rep_own r; rw [e, emp h2]; exact .inl ⟨vs, SqL.of h, rfl⟩
  case frz.refl => obtain ⟨a, vs, e, h, h2⟩ := rep_frz (r.rep rfl); rw [e, emp h2]; exact .inl ⟨vs, h.sq, rfl⟩
theorem atI_rep {ts : List D} {vs : List V} {i : Int} {t : D} (r : RepL K C M H ts vs) (e : atI ts i = some t) : ∃ v, atI vs i = some v ∧ Rep K C M H t v := by
  unfold atI at e ⊢
  rw [r.length]
  cases h : ixN ts.length i with
  | none => rw [h] at e; cases e
  | some j =>
    rw [h] at e
    obtain ⟨v, h1, h2⟩ := r.get (show ts[j]? = some t from e)
    exact ⟨v, h1, h2⟩
theorem idx_ok (p : Pre K Tb C M H δ) {x y z : D} {v u : V} {Q : VK} (e : idxD δ x y = some z) (rx : RepS K C M H x v) (ry : RepS K C M H y u) (q : ∀ w, Rep K C M H z w → Q w H) : rIx2 K v u H Q := by
  unfold idxD at e
  split at e
  · split at e
    · rename_i hl
      rw [Option.map_eq_some_iff] at e
      obtain ⟨c, e1, e2⟩ := e
      exact .inl (.inr (.inr ⟨_, _, c, rep_str (rx.rep rfl), rep_int (ry.rep rfl), by rw [← line_eq]; exact hl, e1, q _ (by rw [← e2]; exact mk_str)⟩))
    · cases e
  · rename_i ks ts z'
    obtain ⟨a, vs, h1, _, _, h2, h3⟩ := rep_tab (rx.rep rfl)
    obtain ⟨w, e1, e2⟩ := (tab_rep (x := z') (ks := ks) h3).1 _ e
    refine .inr ⟨a, w, h1, ?_, q w e2⟩
    rw [rep_str (ry.rep rfl), ← e1]
    exact DGet.k (k := Sum.inr z') h2
  · rw [Option.bind_eq_some_iff] at e
    obtain ⟨ts, e1, e2⟩ := e
    obtain ⟨a, vs, h1, h2, h3⟩ := seqD_rep p e1 rx
    obtain ⟨w, h4, h5⟩ := atI_rep h3 e2
    rcases h2 with h2 | h2
    · exact .inl (.inl ⟨a, vs, _, w, h1, rep_int (ry.rep rfl), h2, h4, q w h5⟩)
    · exact .inl (.inr (.inl ⟨a, vs, _, w, h1, rep_int (ry.rep rfl), h2, h4, q w h5⟩))
  · cases e
theorem cut_rep {ts : List D} {vs : List V} (lo hi : Option Int) (r : RepL K C M H ts vs) : RepL K C M H (cutD ts lo hi) (cutV vs lo hi) := by
  unfold cutD cutV
  rw [r.length]
  exact (r.drop _).take _
theorem cutD_all {ts : List D} {lo hi : Option Int} (h1 : HT.sIx ts.length 0 lo = 0) (h2 : HT.sIx ts.length ts.length hi = ts.length) : cutD ts lo hi = ts := by
  unfold cutD
  rw [h1, h2]
  simp
theorem slc_ok (p : Pre K Tb C M H δ) {x z : D} {lo hi : Option Int} {v : V} {Q : VK} {fr : Bool} (e : slcD δ x lo hi = some z) (rx : RepS K C M H x v) (q : Post K Tb fr C M H δ z Q) : rSl K v lo hi H Q := by
  unfold slcD at e
  split at e
  · cases e
    obtain ⟨a, vs, h1, h2, h3⟩ := rep_tup (rx.rep rfl)
    refine .inl (.inl ⟨a, vs, h1, h2, fun hw => ?_, fun _ => q.tup p (cut_rep lo hi h3)⟩)
    rw [h3.length] at hw
    rw [cutD_all hw.1 hw.2] at q
    rw [← h1]
    exact q.hereN p (rx.rep rfl) (fun _ z => by cases z)
  · cases e
    obtain ⟨a, vs, h1, _, _, h2, h3⟩ := rep_lst (rx.rep rfl)
    exact .inl (.inr ⟨a, vs, h1, SqL.of h2, q.lst p (cut_rep lo hi h3)⟩)
  · cases e
    obtain ⟨a, vs, h1, _, h2, h3⟩ := rep_own rx
    exact .inl (.inr ⟨a, vs, h1, SqL.of h2, q.lst p (cut_rep lo hi h3)⟩)
  · cases e
    obtain ⟨a, vs, h1, h2, h3⟩ := rep_frz (rx.rep rfl)
    exact .inl (.inr ⟨a, vs, h1, h2.sq, q.lst p (cut_rep lo hi h3)⟩)
  · rename_i k
    rw [Option.map_eq_some_iff] at e
    obtain ⟨ts, e1, e2⟩ := e
    subst e2
    obtain ⟨a, h1, h2⟩ := rep_cell (K := K) (M := M) (H := H) (rx.rep rfl)
    obtain ⟨vs, q2, q3⟩ := p.cellL e1 h2
    exact .inl (.inr ⟨a, vs, h1, SqL.of q2, q.lst p (cut_rep lo hi q3)⟩)
  · split at e
    · rename_i z hz
      cases e
      exact .inr ⟨z, rep_str (rx.rep rfl), by rw [← line_eq]; exact hz, q.hereN p mk_str (fun _ z => by cases z)⟩
    · cases e
  · cases e
end
end Mini

namespace PySem
open Sem (wp)
theorem meets_enum1B {v : Value} {o : Obj} {H : Heap → Prop} (B : Begins v o H) :
    Meets (Builtin.«enumerate.__new__» ⟨[.type "enumerate", v], []⟩) (fun _ R s => H s.heap ∧
      R (.ok (.ret (.ref (s.heap.push o).objs.size))) { s with heap := (s.heap.push o).push { cls := .type "enumerate", data := .fields #[.none, .bool false, .ref s.heap.objs.size, rawInt 0, .none, .none] } }) :=
  .of_wp fun prog w A R s h => by
    obtain ⟨hp, g, d, tk, os⟩ := s; obtain ⟨h1, h⟩ := h
    have hsub := sub_enumerate
    have q1 : ∀ {A' : Around} {E : Value → Shared → Prop} {Q : Value → Shared → Prop}, Q (.ref hp.objs.size) ⟨hp.push o, g, d, tk, os⟩ → wpAny (model prog w) A' (pyIter v) Q E ⟨hp, g, d, tk, os⟩ :=
      fun q => B.iter prog w _ _ ⟨hp, g, d, tk, os⟩ _ h1 q
    wp_walk using q1
    refine wpAny_stack_any fun st => wpAny_pure ?_
    split
    · rename_i c _ _ _ _ _
      cases (c == Value.type "enumerate")
      · wp_walk using q1
        exact ⟨_, rfl, h⟩
      · wp_walk using q1
        exact ⟨_, rfl, h⟩
    · wp_walk using q1
      exact ⟨_, rfl, h⟩
section
variable {prog : Program} {w : World} {A : Around} {E : Value → Shared → Prop} {s : Shared}
theorem enum1_begins {v : Value} {o : Obj} {H : Heap → Prop} {Q : Value → Shared → Prop} (B : Begins v o H) (h1 : H s.heap)
    (h : ∀ h', IsEnum h' (s.heap.objs.size + 1) s.heap.objs.size 0 .none → h'.get? s.heap.objs.size = some o → h'.objs.size = s.heap.objs.size + 2 →
      (∀ b o, s.heap.get? b = some o → h'.get? b = some o) → Q (.ref (s.heap.objs.size + 1)) { s with heap := h' }) :
    wpAny (model prog w) A (call (.type "enumerate") [v]) Q E s := by
  refine callType_new F.called_enumerate (by decide) (F.typeCall_enumerate_1 _) (F.newCall_enumerate_1 _) (fun obj => F.args_object_init_2 obj _) F.entry_enumerate_new
    (meets_enum1B B) ⟨h1, ?_⟩
  have hz : (s.heap.push o).objs.size = s.heap.objs.size + 1 := Heap.size_push ..
  show _ ∧ _
  rw [hz]
  have he : IsEnum ((s.heap.push o).push { cls := .type "enumerate", data := .fields #[.none, .bool false, .ref s.heap.objs.size, rawInt 0, .none, .none] }) (s.heap.objs.size + 1) s.heap.objs.size 0 .none := by
    have := Heap.get?_push_size (s.heap.push o) (o := { cls := .type "enumerate", data := .fields #[.none, .bool false, .ref s.heap.objs.size, rawInt 0, .none, .none] }) rfl
    rw [hz] at this; exact this
  refine ⟨⟨_, he, rfl⟩, h _ he (Heap.get?_push_of_some _ (Heap.get?_push_size _ B.free)) (by rw [Heap.size_push, hz]) fun b o x => Heap.get?_push_of_some _ (Heap.get?_push_of_some _ x)⟩
end
end PySem
namespace ET
open PySem PySem.Spec PyProof.Rows L2
def Itet (K : PySem.W.Frag) (a : Addr) : It :=
  ⟨fun i H => ∃ (xs : List V) (x : V), SqT K H a xs ∧ xs[i]? = some x, fun i H v H' => ∃ T x, v = .ref T ∧ H T = none ∧ H' = upd H T (.tup [.int (i : Nat), x]) ∧ ∀ xs, SqT K H a xs → xs[i]? = some x, fun i H => ∃ xs : List V, SqT K H a xs ∧ xs.length = i⟩
theorem turn_enumT {P : Program} {w : World} {K : PySem.W.Frag} {elts : List Expr} {kk : Nat} {tpos : Pos} (a e it : Addr) :
    Turn P w K (.Tuple elts kk tpos) (Itet K a) [e, it] e (fun i h => (∃ old, IsEnum h e it ((i : Nat) : Int) old) ∧ h.IsTupleIter it a i ∧ e ≠ it ∧ e ≠ a ∧ a ≠ it) where
  mem := by simp
  obj := fun i h st b hb => by
    obtain ⟨⟨old, he⟩, ⟨o, ho, hc, hd⟩, _⟩ := st
    have e' : b = e ∨ b = it := by simpa using hb
    rcases e' with z | z
    · rw [z]; exact ⟨_, he, fun v q => nomatch q⟩
    · rw [z]; exact ⟨o, ho, fun v q => by rw [hd] at q; cases q⟩
  keep := fun i h h' st k => let ⟨⟨old, he⟩, hi, hne⟩ := st; ⟨⟨old, k e (by simp) _ he⟩, hi.at fun o q => k it (by simp) o q, hne⟩
  item := by
    intro X hP hw hK hc i pins s σ H E I hf st hg
    subst hP hw hK
    obtain ⟨⟨old, he⟩, hit, hne, hea, hai⟩ := st
    obtain ⟨xs, x, hq, hx⟩ := hg
    obtain ⟨its, rv, p, hz⟩ := I.tuple hq
    obtain ⟨u, hu, ru⟩ := rv.get hx
    have hel : e < s.heap.objs.size := Heap.lt_size he
    have hil : it < s.heap.objs.size := by obtain ⟨_, q, _⟩ := hit; exact Heap.lt_size q
    have hlen : i < its.toArray.size := by
      have := (List.getElem?_eq_some_iff.mp hu).1
      simpa using this
    refine wpAny_pyNext_enum_itemD (Draws.tuple (show (X.A.in1).handled = none from I.ok.hd hc) it a hai its.toArray) he ⟨hit, p⟩ hlen hne (fun z => ?_) fun y h' tk hy ho hst hT hsz hk => ?_
    · rcases List.mem_cons.mp z with z | z
      · exact hne z
      · exact hea (List.mem_singleton.mp z)
    have ey : y = u := by
      rw [List.getElem?_toArray, hu] at hy
      exact (Option.some.inj hy).symm
    subst ey
    refine ⟨_, rfl, wpAny_letOwnedTupleGo_enum (s := { s with heap := h', toks := tk + 1 }) ho fun h'' he' sb => ?_⟩
    have hT2 : h''.get? s.heap.objs.size = some { cls := .type "tuple", data := .seq #[.int i tk, y] } := (sb.2 _ (Nat.ne_of_gt hel)).trans hT
    have new : ObjOk X.prog X.w (upd H s.heap.objs.size (.tup [.int (i : Nat), x])) h'' s.heap.objs.size (.tup [.int (i : Nat), x]) :=
      ⟨by show 2 ≤ sizeLine; decide, [.int i tk, y], .cons ⟨_, rfl⟩ (.cons ru .nil), ⟨_, hT2, rfl, _, rfl⟩⟩
    have I1 : Inv X pins σ (upd H s.heap.objs.size (.tup [.int (i : Nat), x])) { s with heap := h'', toks := tk + 1 } :=
      I.turnedNew (ch := [e, it]) (fun b ob hb q => (sb.2 b (fun z => hb (by simp [z]))).trans (hk b ob (fun z => hb (by simp [z])) (fun z => hb (by simp [z])) q)) hf (Nat.le_refl _) new
    refine ⟨.ref s.heap.objs.size, _, I1, rfl, ⟨_, x, rfl, I.hok.fresh (Nat.le_refl _), rfl, fun ys hy => by rw [I.tuple_inj hy hq]; exact hx⟩, ⟨⟨y, ?_⟩, hst.1.at fun o q => (sb.2 it (Ne.symm hne)).trans q, hne, hea, hai⟩, fun b hb => ?_⟩
    · have e1 : ((i + 1 : Nat) : Int) = (i : Int) + 1 := by omega
      rw [e1]; exact he'
    · have hb' : b < s.heap.objs.size := by
        have e' : b = e ∨ b = it := by simpa using hb
        rcases e' with z | z
        · rw [z]; exact hel
        · rw [z]; exact hil
      rw [upd_ne (Nat.ne_of_lt hb')]
      exact (hf b hb).1
  done := by
    intro X hP hw hK hc i pins s σ H E I hf st hg
    subst hP hw hK
    obtain ⟨⟨old, he⟩, hit, hne, hea, hai⟩ := st
    obtain ⟨xs, hq, hx⟩ := hg
    obtain ⟨its, rv, p, hz⟩ := I.tuple hq
    obtain ⟨f0, f1, f2, f3, f4, f5⟩ := hf it (by simp)
    have hl := rv.length
    have hi : i = its.toArray.size := by simp; omega
    rw [hi] at hit
    refine wpAny_pyNext_enum_endD (Draws.tuple (show (X.A.in1).handled = none from I.ok.hd hc) it a hai its.toArray) he ⟨hit, p⟩ fun h' eb => ⟨rfl, I.turned (t' := s.toks) (fun b o hb q => eb b o hb q) f0 f1 f3 f4 f5⟩
  self := fun A i s Q E st h => let ⟨⟨_, he⟩, _⟩ := st; wpAny_pyIter_enum he h

theorem pi_enumA {X : Cx} {e : Expr} {ta : TA} {p pos tpos : Pos} {elts : List Expr} {kk : Nat} (hg : Gl X "enumerate") (hm : X.mg "enumerate" = none) (ha : PA X [e] ta) (hs : starEach [e] X.env = [(false, eval e X.env)] := by rfl) :
    PI X (.Tuple elts kk tpos) (.Call (.Name "enumerate" p) [e] [] pos) (fun σ H R => ta σ H fun vs H1 => ∃ a xs, vs = [.ref a] ∧ ((SqL X.K H1 a xs ∧ R (Ite X.K a) H1) ∨ (SqT X.K H1 a xs ∧ R (Itet X.K a) H1))) := by
  refine ⟨fun pins s σ H R I h => ?_⟩
  refine Call_ (ld_blt I hg hm boot_enumerate (PyProof.Rows.callWith_type1 (thn (ha.run pos pins s σ H _ I h) fun us s1 ⟨vs, H1, I1, r1, q1⟩ => ?_) hs rfl))
  obtain ⟨a, xs, ex, q1⟩ := q1
  subst ex
  cases r1 with
  | cons r rr =>
    cases rr
    cases r
    rcases q1 with ⟨hq, q⟩ | ⟨hq, q⟩
    · obtain ⟨its, rv, p', hz⟩ := I1.list hq
      refine call_enumerate_list p'.isList fun h' he hit hsz hk => wpAny_pyIter_enum he ?_
      have I2 : Inv X pins σ H1 { s1 with heap := h' } := I1.kept (t' := s1.toks) hk
      refine ⟨s1.heap.objs.size + 1, [s1.heap.objs.size + 1, s1.heap.objs.size], _, _, H1, rfl, I2, turn_enum a (s1.heap.objs.size + 1) s1.heap.objs.size, ⟨⟨.none, he⟩, hit, Nat.succ_ne_self _⟩, fun b hb => ?_, q⟩
      have e' : b = s1.heap.objs.size + 1 ∨ b = s1.heap.objs.size := by simpa using hb
      have hle : s1.heap.objs.size ≤ b := by
        rcases e' with z | z
        · rw [z]; exact Nat.le_add_right _ _
        · rw [z]; exact Nat.le_refl _
      exact I1.fpOk hle (I1.hok.fresh hle)
    · obtain ⟨its, rv, p', hz⟩ := I1.tuple hq
      have hp : s1.heap.IsTuple a its.toArray := p'
      have hal : a < s1.heap.objs.size := by obtain ⟨_, q, _⟩ := hp; exact Heap.lt_size q
      refine enum1_begins (begins_tuple a its.toArray) hp fun h' he hit hsz hk => wpAny_pyIter_enum he ?_
      have I2 : Inv X pins σ H1 { s1 with heap := h' } := I1.kept (t' := s1.toks) hk
      refine ⟨s1.heap.objs.size + 1, [s1.heap.objs.size + 1, s1.heap.objs.size], _, _, H1, rfl, I2, turn_enumT a (s1.heap.objs.size + 1) s1.heap.objs.size, ⟨⟨.none, he⟩, ⟨_, hit, rfl, rfl⟩, Nat.succ_ne_self _, Nat.ne_of_gt (Nat.lt_succ_of_lt hal), Nat.ne_of_lt hal⟩, fun b hb => ?_, q⟩
      have e' : b = s1.heap.objs.size + 1 ∨ b = s1.heap.objs.size := by simpa using hb
      have hle : s1.heap.objs.size ≤ b := by
        rcases e' with z | z
        · rw [z]; exact Nat.le_add_right _ _
        · rw [z]; exact Nat.le_refl _
      exact I1.fpOk hle (I1.hok.fresh hle)
end ET

namespace MV
open PySem PySem.Spec PyProof.Rows L2 LamX PySem.W Srt SrtO
theorem collectT {prog : Program} {w : World} {A : Around} {E : Value → Shared → Prop} {s : Shared} {l : Addr} {vs : List Value} {Q : List Value → Shared → Prop} (hl : IsTup s.heap l vs.toArray)
    (h : Q vs { s with heap := (s.heap.push (seqObj "list" #[] 0)).update s.heap.objs.size (Obj.mapSeq (· ++ vs.toArray)) }) (hsz : vs.length ≤ sizeLine) : wpAny (model prog w) A (collect (.ref l)) Q E s := by
  obtain ⟨ob, ho, hc, n, hd⟩ := id hl
  unfold collect
  refine wpAny_bind (wpAny_runValue (codeAny_builtin entry_proto_collect' ?_))
  show wpAny _ _ (do again (.builtin "list.__iadd__" ⟨[← newList [], .ref l], []⟩)) _ _ s
  refine wpAny_bind (wpAny_newList (wpAny_pure ⟨Code.quiet_builtin _ (by decide +kernel), codeAny_builtin entry_list_iadd' ?_⟩))
  show wpAny _ _ (Builtin.List.listExtendWith (.ref s.heap.objs.size) (.ref l) (.ref s.heap.objs.size)) _ _ { s with heap := s.heap.push (seqObj "list" #[] 0) }
  unfold Builtin.List.listExtendWith
  have ho' : (s.heap.push (seqObj "list" #[] 0)).get? l = some ob := Heap.get?_push_of_some _ ho
  refine wpAny_bind (wpAny_typeOf (T := "tuple") ⟨ob, ho', hc⟩ ?_)
  have ht : (Value.type "tuple" == Value.type "tuple") = true := by rfl
  rw [if_pos (by rw [ht]; simp)]
  refine wpAny_bind (listItems_at ho' hd ?_)
  refine wpAny_bind (listItems_at (xs := #[]) (n := 0) (Heap.get?_push_size _ rfl) rfl ?_)
  rw [if_neg (by simp)]
  refine wpAny_bind (listUpdate_at (xs := #[]) (n := 0) (Heap.get?_push_size _ rfl) rfl ?_ (Nat.zero_le _) (by show (#[] ++ vs.toArray).size ≤ sizeLine + 1; simp only [Array.size_append, List.size_toArray, List.length_nil]; omega))
  refine wpAny_pure ?_
  show wpAny (model prog w) A (do
      let ob ← load s.heap.objs.size
      match ob.data with
      | .seq xs _ => pure xs.toList
      | _ => unsupported "internal:collect") Q E { s with heap := (s.heap.push (seqObj "list" #[] 0)).update s.heap.objs.size (Obj.mapSeq (· ++ vs.toArray)) }
  refine wpAny_bind (wpAny_load (get?_update_seq (Heap.get?_push_size _ rfl) _) ?_)
  show wpAny _ _ (pure ((#[] : Array Value) ++ vs.toArray).toList) Q E _
  rw [show ((#[] : Array Value) ++ vs.toArray).toList = vs by simp]
  exact wpAny_pure h
section
variable {prog : Program} {w : World} {A : Around} {E : Value → Shared → Prop} {s : Shared}
theorem sortedT {l : Addr} {vs : List Value} {ltv : Value → Value → Bool} {Q : Value → Shared → Prop} (O : Swo ltv) (hl : IsTup s.heap l vs.toArray) (hz : vs.length ≤ sizeLine)
    (hS : 2 ≤ vs.length → ∀ (h₁ : Heap) (a : Addr), SortableO prog w A.in1.in1 { s with heap := h₁ } a vs ltv)
    (h : ∀ out : List Value, Srtd ltv out → Stb ltv out vs → Q (.ref (s.heap.objs.size + 1)) { s with heap := sortedAll s.heap vs out.toArray }) :
    wpAny (model prog w) A (call (.builtin "sorted") [.ref l]) Q E s := by
  refine Calls.call_function_entry kind_sorted plain_sorted entry_sorted (args_sorted1 _) ?_
  unfold Builtin.«sorted»
  refine wpAny_bind (m := checkCount "sorted" 1 1 _) (wpAny_pure ?_)
  refine wpAny_bind (collectT hl ?_ hz)
  refine wpAny_bind (wpAny_newList ?_ hz)
  have hsz : ((s.heap.push (seqObj "list" #[] 0)).update s.heap.objs.size (Obj.mapSeq (· ++ vs.toArray))).objs.size = s.heap.objs.size + 1 := by
    rw [Heap.size_update, size_push']
  have hoL : (((s.heap.push (seqObj "list" #[] 0)).update s.heap.objs.size (Obj.mapSeq (· ++ vs.toArray))).push (seqObj "list" vs.toArray 0)).get? (s.heap.objs.size + 1) = some (seqObj "list" vs.toArray 0) := by
    rw [← hsz]
    exact Heap.get?_push_size _ rfl
  show wpAny _ _ _ _ _ { s with heap := ((s.heap.push (seqObj "list" #[] 0)).update s.heap.objs.size (Obj.mapSeq (· ++ vs.toArray))).push (seqObj "list" vs.toArray 0) }
  rw [hsz]
  refine wpAny_bind (wpAny_holding (wpAny_call_entry slot_list_sort ⟨_, hoL, rfl⟩ entry_list_sort (list_sort_ord O hoL hz (fun h2 => hS h2 _ _) fun out hs hb => ⟨_, rfl, ?_⟩) (args_list_sort _)))
  exact wpAny_pure ⟨_, rfl, h out hs hb⟩
end
def rSortedT (K : PySem.W.Frag) : List V → Hp → VK → Prop := fun vs H Q => ∃ (a : Addr) (ns : List Int), vs = [V.ref a] ∧ SqT K H a (ns.map V.int) ∧
  ∀ (ns' : List Int) (p : Addr), ns'.Perm ns → ns'.Pairwise (· ≤ ·) → H p = none → Q (.ref p) (upd H p (.lst (ns'.map V.int)))
theorem cr_sortedT {X : Cx} : CallR X (.builtin "sorted") (rSortedT X.K) := by
  intro pins s σ H vs us Q I r h
  obtain ⟨a, ns, rfl, hs, q⟩ := h
  obtain ⟨its, rv, hl, hz⟩ := I.tuple hs
  rw [Vals.ref1 r]
  have hi := rv.ints
  refine sortedT swo_int hl (by rw [← rv.length]; exact hz) (fun h2 h₁ a' => ints_sortable hi h2) fun out h1 h2 => ?_
  obtain ⟨k1, k2, k3⟩ := ints_out hi h1 h2
  obtain ⟨ep, he'⟩ := PyProof.Rows.sortedAll_at s.heap its out.toArray
  have hlen : ((out.map SrtO.iv).map V.int).length ≤ sizeLine := by
    rw [List.length_map, k2.length_eq]
    rw [List.length_map] at hz
    exact hz
  exact ⟨.ref _, upd H (s.heap.objs.size + 1) (.lst ((out.map SrtO.iv).map V.int)), I.laid (t' := s.toks) (fun _ _ => PyProof.Rows.sortedAll_old) (Nat.le_succ _) ⟨hlen, out, ep, vals_of_ints k1, he'⟩, rfl, q _ _ k2 k3 (I.hok.fresh (Nat.le_succ _))⟩
section
variable {prog : Program} {w : World} {A : Around} {E : Value → Shared → Prop} {s : Shared} {l : Addr}
theorem max_intTuple {xs : Array (Int × Tok)} {Q : Value → Shared → Prop} (hh : A.handled = none) (hl : s.heap.IsTuple l (intItems xs)) (hne : 0 < xs.size)
    (h : ∀ v h' tk, (intItems xs)[argBest (fun i j => decide (numAt xs i > numAt xs j)) (xs.size - 1)]? = some v → (∀ b o, s.heap.get? b = some o → h'.get? b = some o) → Q v { s with heap := h', toks := tk }) :
    wpAny (model prog w) A (call (.builtin "max") [.ref l]) Q E s := by
  refine PySem.call_max_walkH (PySem.W.iter_tupleW (A := A.in1) hh hl fun s₂ e W st hfp hw hk => ?_)
  refine ⟨_, _, _, _, _, _, _, s.heap, _, rfl, W, st, hfp, by simpa [intItems] using hne, hw, hk, fun i j vi vj s Q E _ hi hj h => CmpOf.ints_gt (numAt xs) (fun _ _ => intItems_at) i j vi vj s Q E hi hj h, fun v s' hP m => ?_⟩
  obtain ⟨h', tk, rfl, hk'⟩ := PySem.W.moved_old e rfl m
  exact h v h' tk (by simpa [intItems] using hP) hk'
theorem maxT_raw {its : List Value} {ns : List Int} {Q : Value → Shared → Prop} (hh : A.handled = none) (hl : s.heap.IsTuple l its.toArray) (hi : IntsAre its ns) (hne : 0 < ns.length)
    (h : ∀ h' tk M t', (∀ b o, s.heap.get? b = some o → h'.get? b = some o) → M ∈ ns → (∀ a, a ∈ ns → a ≤ M) → Q (.int M t') { s with heap := h', toks := tk }) : wpAny (model prog w) A (call (.builtin "max") [.ref l]) Q E s := by
  obtain ⟨xs, e⟩ := hi.allInts.items
  have hn : numsOf (intItems xs).toList = ns := by rw [← e]; exact hi.numsOf
  rw [nums_intItems] at hn
  subst hn
  rw [e] at hl
  have hsz : 0 < xs.size := by simpa using hne
  refine max_intTuple hh hl hsz fun v h' tk hv hk => ?_
  obtain ⟨t, rfl⟩ := intItems_at hv
  obtain ⟨h1, h2⟩ := argBest_gt (numAt xs) (xs.size - 1)
  refine h h' tk _ t hk ?_ fun a ha => ?_
  · rw [numAt_eq]; exact PySem.getD_mem (by rw [List.length_map, Array.length_toList]; omega)
  · obtain ⟨j, hj, rfl⟩ := mem_getD ha
    rw [List.length_map, Array.length_toList] at hj
    rw [← numAt_eq]; exact h2 j (by omega)
end
def rMaxT (K : PySem.W.Frag) : List V → Hp → VK → Prop := fun vs H Q => ∃ (a : Addr) (ns : List Int), vs = [V.ref a] ∧ SqT K H a (ns.map V.int) ∧ 0 < ns.length ∧ ∀ m, m ∈ ns → (∀ y, y ∈ ns → y ≤ m) → Q (.int m) H
theorem cr_maxT {X : Cx} (hc : X.calm = true) : CallR X (.builtin "max") (rMaxT X.K) := by
  intro pins s σ H vs us Q I r h
  obtain ⟨a, ns, rfl, hs, hne, q⟩ := h
  obtain ⟨its, rv, hl, _⟩ := I.tuple hs
  rw [Vals.ref1 r]
  exact maxT_raw (I.ok.hd hc) hl rv.ints hne fun h' tk m t' hk h1 h2 => ⟨.int _, H, I.kept hk, ⟨_, rfl⟩, q m h1 h2⟩
end MV

namespace Mini
open PySem PySem.Spec PyProof.Rows L2

def rowP (r : List Int) : PyData := .tuple (r.map .int)
def rMinR (K : PySem.W.Frag) : List V → Hp → VK → Prop := fun vs H Q => ∃ (a : Addr) (us : List V) (r : List Int) (rs : List (List Int)), vs = [V.ref a] ∧ SqL K H a us ∧ DpAll K H us ((r :: rs).map rowP) ∧
  ∀ (i : Nat) (v : V), us[i]? = some v → (r :: rs)[i]? = some (minRow r rs) → Q v H
theorem alike_ints : ∀ (a b : List Int), PySem.W.alikeAll (a.map .int) (b.map .int) = true
  | [], _ => by simp [PySem.W.alikeAll]
  | _ :: _, [] => by simp [PySem.W.alikeAll]
  | x :: a, y :: b => by
    rw [List.map_cons, List.map_cons, PySem.W.alikeAll, PySem.W.alike, alike_ints a b]; rfl
theorem rows_alike (rs : List (List Int)) : PySem.W.AlikeAll (rs.map rowP) := by
  refine ⟨fun x hx y hy => ?_, fun x hx z => ?_⟩
  · obtain ⟨a, _, rfl⟩ := List.mem_map.mp hx
    obtain ⟨b, _, rfl⟩ := List.mem_map.mp hy
    unfold rowP
    rw [PySem.W.alike]
    exact alike_ints a b
  · obtain ⟨a, _, rfl⟩ := List.mem_map.mp hx
    cases z
theorem depth_ints : ∀ a : List Int, PyData.depthAll (a.map .int) = 0
  | [] => by rw [List.map_nil, PyData.depthAll]
  | x :: a => by rw [List.map_cons, PyData.depthAll, depth_ints a, PyData.depth]; rfl
theorem depth_rows : ∀ rs : List (List Int), PyData.depthAll (rs.map rowP) ≤ 1
  | [] => by rw [List.map_nil, PyData.depthAll]; omega
  | r :: rs => by
    have := depth_rows rs
    have e : PyData.depth (rowP r) = 1 := by unfold rowP; rw [PyData.depth, depth_ints]
    rw [List.map_cons, PyData.depthAll, e]; omega
theorem dataLt_rows (a b : List Int) : PySem.W.dataLt (rowP a) (rowP b) = decide (a < b) := by
  rw [← PySem.W.dataLt_ints]
  unfold PySem.W.dataLt rowP PySem.W.rowLt
  rw [PySem.W.keyToks, PySem.W.keyToks]
theorem minD_rows (r : List Int) : ∀ rs : List (List Int), PySem.W.minD (rowP r) (rs.map rowP) = rowP (minRow r rs) := by
  intro rs
  induction rs generalizing r with
  | nil => rfl
  | cons y rs ih =>
    show (rs.map rowP).foldl _ (if PySem.W.dataLt (rowP y) (rowP r) = true then rowP y else rowP r) = rowP (rs.foldl _ (if y < r then y else r))
    rw [dataLt_rows]
    by_cases h : y < r
    · rw [if_pos (by simpa using h), if_pos h]
      exact ih y
    · rw [if_neg (by simpa using h), if_neg h]
      exact ih r
theorem rowP_inj {a b : List Int} (h : rowP a = rowP b) : a = b := by
  unfold rowP at h
  injection h with h
  exact (List.map_inj_right fun x y z => by injection z).mp h
theorem readsL_at {h : Heap} : ∀ {vs : List Value} {xs : List PyData} {as : List Addr}, ReadsAll h vs xs as → ∀ (i : Nat) (v : Value), vs[i]? = some v → ∃ x bs, xs[i]? = some x ∧ Reads h v x bs
  | _, _, _, .nil, _, _, hv => by simp at hv
  | _, _, _, .cons r rs, 0, v, hv => by
    have e := Option.some.inj (show some _ = some v from hv)
    subst e
    exact ⟨_, _, rfl, r⟩
  | _, _, _, .cons r rs, i + 1, v, hv => readsL_at rs i v (by simpa using hv)
theorem cr_minR {X : Cx} (hc : X.calm = true) (hu : X.A.units + 65 < cLine) : CallR X (.builtin "min") (rMinR X.K) := by
  intro pins s σ H vs us Q I r h
  obtain ⟨a, ws, r0, rs, rfl, hs, hd, q⟩ := h
  obtain ⟨its, rv, hl, _⟩ := I.list hs
  rw [Vals.ref1 r]
  obtain ⟨as, ra⟩ := Dp.readsAll I _ _ _ hd rv
  have dep := depth_rows (r0 :: rs)
  have ra' : ReadsAll s.heap its.toArray.toList (rowP r0 :: rs.map rowP) as := ra
  refine PySem.W.min_list_data (I.ok.hd hc) hl.isList ra' (rows_alike (r0 :: rs)) (by
    show _ + 1 + PyData.depthAll ((r0 :: rs).map rowP) < _
    omega) fun i v h' tk bs hv hr hk => ?_
  rw [minD_rows] at hr
  have hv' : its[i]? = some v := by simpa using hv
  obtain ⟨x, bs', hx, rx⟩ := readsL_at ra i v hv'
  have hx' : ((r0 :: rs).map rowP)[i]? = some x := hx
  rw [List.getElem?_map] at hx'
  obtain ⟨row, e1, e2⟩ := Option.map_eq_some_iff.mp hx'
  have e3 : rowP (minRow r0 rs) = x := (reads_det (h := s.heap) (h' := h') (fun b o e _ => hk b o e) rx hr).1
  have e4 : row = minRow r0 rs := rowP_inj (e2.trans e3.symm)
  obtain ⟨w, ew, rw_⟩ : ∃ w, ws[i]? = some w ∧ RelV w v := by
    have hl := rv.length
    have hi : i < its.length := (List.getElem?_eq_some_iff.mp hv').1
    have hi2 : i < ws.length := by omega
    obtain ⟨u, h1, h2⟩ := rv.get (List.getElem?_eq_getElem hi2)
    rw [hv'] at h1
    cases h1
    exact ⟨_, List.getElem?_eq_getElem hi2, h2⟩
  exact ⟨w, H, I.kept hk, rw_, q i w ew (by rw [e1, e4])⟩
def rSortedU (xs : List V) (H : Hp) (Q : VK) : Prop := ∃ (a : Addr) (kvs : List (Key × V)) (ks : List Str), xs = [.ref a] ∧ H a = some (.dK kvs) ∧ kvs.map (·.1) = ks.map Sum.inr ∧ ks.length ≤ 1 ∧ ∀ p, H p = none → Q (.ref p) (upd H p (.lst (ks.map V.str)))
theorem perm_one {α : Type} {ys ks : List α} (h : ys.Perm ks) (l : ks.length ≤ 1) : ys = ks := by
  rcases ks with _ | ⟨k, _ | ⟨_, _⟩⟩
  · exact List.perm_nil.mp h
  · exact List.perm_singleton.mp h
  · simp at l
theorem cr_sortedU {X : Cx} (hcalm : X.calm = true) : CallR X (.builtin "sorted") rSortedU := by
  intro pins s σ H xs us Q I r ⟨a, kvs, ks, e, h, hk, hl, q⟩
  exact call_sortedD hcalm pins s σ H xs us Q I r ⟨a, kvs, ks, e, .inl h, hk, by omega, fun ys p hp _ hn => by rw [perm_one hp hl]; exact q p hn⟩
def rBlt (K : PySem.W.Frag) : Blt → List V → Hp → VK → Prop
  | .abs => fun xs H Q => ∃ i, xs = [.int i] ∧ Q (.int (if i < 0 then -i else i)) H
  | .len => fun xs H Q => (∃ z, xs = [.str z] ∧ z.length ≤ sizeLine ∧ Q (.int z.length) H) ∨ ∃ p ys, xs = [.ref p] ∧ (SqL K H p ys ∨ SqT K H p ys) ∧ Q (.int ys.length) H
  | .int => fun xs H Q => ((∃ i, xs = [.int i] ∧ Q (.int i) H) ∨ ∃ k, xs = [.bl k] ∧ Q (.int (if k then 1 else 0)) H) ∨ ∃ a n, xs = [.str a] ∧ PySem.intText? a = some n ∧ a.length ≤ 640 ∧ Q (.int n) H
  | .bool => fun xs H Q => (∃ i, xs = [.int i] ∧ Q (.bl (i != 0)) H) ∨ ∃ k, xs = [.bl k] ∧ Q (.bl k) H
  | .tuple => fun xs H Q => ∃ p ys, xs = [.ref p] ∧ ((SqL K H p ys ∧ ∀ l, H l = none → Q (.ref l) (upd H l (.tup ys))) ∨ (SqT K H p ys ∧ Q (.ref p) H))
  | .list => fun xs H Q => ∃ p ys, xs = [.ref p] ∧ (SqL K H p ys ∨ SqT K H p ys) ∧ ∀ l, H l = none → Q (.ref l) (upd H l (.lst ys))
  | .max2 => fun xs H Q => ∃ i j, xs = [.int i, .int j] ∧ Q (.int (if j > i then j else i)) H
  | .min2 => fun xs H Q => ∃ i j, xs = [.int i, .int j] ∧ Q (.int (if j < i then j else i)) H
  | .sum => rSum K
  | .max3 => fun xs H Q => ∃ i j k, xs = [.int i, .int j, .int k] ∧ Q (.int (max i (max j k))) H
  | .maxl => fun xs H Q => rMax K xs H Q ∨ MV.rMaxT K xs H Q
  | .minl => rMin K
  | .minr => rMinR K
  | .sorted => fun xs H Q => (rSortedI K xs H Q ∨ MV.rSortedT K xs H Q) ∨ rSortedU xs H Q
  | .str => fun xs H Q => ∃ i, xs = [.int i] ∧ i.natAbs.log2 < 1920 ∧ Q (.str (toString i)) H
  | .isi => rIsi K
def bltV : Blt → Value
  | .abs => .builtin "abs"
  | .len => .builtin "len"
  | .int => .type "int"
  | .bool => .type "bool"
  | .tuple => .type "tuple"
  | .list => .type "list"
  | .max2 => .builtin "max"
  | .min2 => .builtin "min"
  | .sum => .builtin "sum"
  | .max3 => .builtin "max"
  | .maxl => .builtin "max"
  | .minl => .builtin "min"
  | .minr => .builtin "min"
  | .sorted => .builtin "sorted"
  | .str => .type "str"
  | .isi => .builtin "isinstance"
theorem call_max3 {X : Cx} (hc : X.calm = true) : CallR X (.builtin "max") (fun xs H Q => ∃ i j k, xs = [.int i, .int j, .int k] ∧ Q (.int (max i (max j k))) H) := by
  intro pins s σ H xs us Q I r h
  obtain ⟨i, j, k, rfl, q⟩ := h
  cases r with
  | cons r1 r =>
  cases r with
  | cons r2 r =>
  cases r with
  | cons r3 r =>
  cases r
  obtain ⟨t, rfl⟩ := r1
  obtain ⟨t', rfl⟩ := r2
  obtain ⟨t'', rfl⟩ := r3
  refine max_three_ints (I.ok.hd hc) fun h' tk k' => ⟨.int (max i (max j k)), H, I.kept k', ?_, q⟩
  split
  · split
    · exact ⟨t'', by congr 1; omega⟩
    · exact ⟨t', by congr 1; omega⟩
  · split
    · exact ⟨t'', by congr 1; omega⟩
    · exact ⟨t, by congr 1; omega⟩
theorem call_blt {X : Cx} (hc : X.calm = true) (hu : X.A.units + 65 < cLine) : ∀ b, CallR X (bltV b) (rBlt X.K b)
  | .abs => call_abs
  | .len => call_len_str.or call_len_seq
  | .int => call_int1.or call_int_str
  | .bool => call_bool1
  | .tuple => call_tuple_of
  | .list => call_list_of
  | .max2 => call_max2 hc
  | .min2 => call_min2 hc
  | .sum => cr_sum hc
  | .max3 => call_max3 hc
  | .maxl => (cr_max hc).or (MV.cr_maxT hc)
  | .minl => cr_min hc
  | .minr => cr_minR hc hu
  | .sorted => (cr_sortedI.or MV.cr_sortedT).or (cr_sortedU hc)
  | .str => call_str_int
  | .isi => call_isi
theorem isi_table : ∀ a ∈ ["NoneType", "bool", "int", "str", "tuple", "list"], ∀ b ∈ ["bool", "int", "str", "tuple", "list"], kitB a b = some (a == b || (a == "bool" && b == "int")) := by decide +kernel
section
variable {K : PySem.W.Frag} {Tb : List (Addr × Str)} {C : List Addr} {M : Addr → Prop} {H : Hp} {δ : Dl}
theorem rsl1 {a : D} {vs : List V} (r : RSL K C M H [a] vs) : ∃ v, vs = [v] ∧ RepS K C M H a v := by
  obtain ⟨v, w, e, h1, h2⟩ := r
  rw [show w = [] from h2] at e
  exact ⟨v, e, h1⟩
theorem rsl2 {a b : D} {vs : List V} (r : RSL K C M H [a, b] vs) : ∃ v u, vs = [v, u] ∧ RepS K C M H a v ∧ RepS K C M H b u := by
  obtain ⟨v, w, e, h1, h2⟩ := r
  obtain ⟨u, e', h3⟩ := rsl1 h2
  exact ⟨v, u, by rw [e, e'], h1, h3⟩
theorem tyX_of (p : Pre K Tb C M H δ) {a : D} {t : String} {v : V} (e : tyName a = some t) (r : RepS K C M H a v) : TyX K H v (.type t) := by
  cases a <;> simp only [tyName] at e <;> first | cases e | skip
  case non.refl => rw [rep_non (r.rep rfl)]; exact .base .non
  case bl.refl b => rw [rep_bl (r.rep rfl)]; exact .base (.bl _)
  case int.refl => rw [rep_int (r.rep rfl)]; exact .base (.int _)
  case str.refl => rw [rep_str (r.rep rfl)]; exact .base (.str _)
  case tup.refl =>
    obtain ⟨a, vs, e, h, _⟩ := rep_tup (r.rep rfl)
    rw [e]
    rcases h with (h | ⟨o, h⟩) | ⟨o, its, n, h, hc, _⟩
    · exact .base (.tup h)
    · exact .fTuple h
    · exact .kTuple h hc
  case lst.refl => obtain ⟨a, vs, e, _, _, h, _⟩ := rep_lst (r.rep rfl); rw [e]; exact .base (.lst h)
  case own.refl => obtain ⟨a, vs, e, _, h, _⟩ := rep_own r; rw [e]; exact .base (.lst h)
theorem ints_rep : ∀ {ts : List D} {ns : List Int} {vs : List V}, intsOf ts = some ns → RepL K C M H ts vs → vs = ns.map V.int
  | [], ns, vs, e, r => by
    cases e
    unfold RepL at r
    exact r
  | .int i :: ts, ns, vs, e, r => by
    unfold intsOf at e
    rw [Option.map_eq_some_iff] at e
    obtain ⟨ms, e1, rfl⟩ := e
    unfold RepL at r
    obtain ⟨v, w, rfl, r1, r2⟩ := r
    rw [rep_int r1, ints_rep e1 r2]
    rfl
theorem ints_back : ∀ {ts : List D} {ns : List Int}, intsOf ts = some ns → ts = ns.map .int
  | [], ns, e => by cases e; rfl
  | t :: ts, ns, e => by
    cases t <;> first | (simp only [intsOf] at e; cases e; done) | skip
    case int i =>
    simp only [intsOf] at e
    cases q : intsOf ts with
    | none => rw [q] at e; cases e
    | some ms =>
      rw [q] at e
      cases e
      rw [ints_back q]; rfl
theorem rsl3 {a b c : D} {vs : List V} (r : RSL K C M H [a, b, c] vs) : ∃ v u w, vs = [v, u, w] ∧ RepS K C M H a v ∧ RepS K C M H b u ∧ RepS K C M H c w := by
  obtain ⟨v, w, e, h1, h2⟩ := r
  obtain ⟨u, x, e', h3, h4⟩ := rsl2 h2
  exact ⟨v, u, x, by rw [e, e'], h1, h3, h4⟩
theorem max_is {ns : List Int} {m x : Int} (h : ns.max? = some x) (hm : m ∈ ns) (hy : ∀ y, y ∈ ns → y ≤ m) : m = x := by
  obtain ⟨h1, h2⟩ := List.max?_eq_some_iff.mp h
  have a := hy x h1
  have b := h2 m hm
  omega
theorem min_is {ns : List Int} {m x : Int} (h : ns.min? = some x) (hm : m ∈ ns) (hy : ∀ y, y ∈ ns → m ≤ y) : m = x := by
  obtain ⟨h1, h2⟩ := List.min?_eq_some_iff.mp h
  have a := hy x h1
  have b := h2 m hm
  omega
theorem sort_is {ns ns' : List Int} (hp : ns'.Perm ns) (hs : ns'.Pairwise (· ≤ ·)) : ns' = sortI ns := by
  refine List.Perm.eq_of_pairwise (le := (· ≤ ·)) (fun a b _ _ h1 h2 => by omega) hs ?_ (hp.trans (List.mergeSort_perm ns _).symm)
  exact (List.pairwise_mergeSort (le := fun a b : Int => decide (a ≤ b)) (fun a b c h1 h2 => by simp at h1 h2 ⊢; omega) (fun a b => by simp; omega) ns).imp fun h => by simpa using h
theorem tabK_keys {ks : List Str} {vs : List V} (h : vs.length = ks.length) : (tabK ks vs).map (·.1) = ks.map Sum.inr := by
  unfold tabK
  exact List.map_fst_zip (by rw [List.length_map]; omega)
theorem repL_strs : ∀ ks : List Str, RepL K C M H (ks.map .str) (ks.map V.str)
  | [] => repL_nil
  | k :: ks => repL_cons mk_str (repL_strs ks)
theorem repL_sorted : ∀ ns : List Int, RepL K C M H (ns.map .int) (ns.map V.int)
  | [] => repL_nil
  | n :: ns => repL_cons mk_int (repL_sorted ns)
theorem dp_ints : ∀ ns : List Int, DpAll K H (ns.map V.int) (ns.map PyData.int)
  | [] => .nil
  | n :: ns => .cons (.int n) (dp_ints ns)
theorem rows_rep : ∀ {ts : List D} {rows : List (List Int)} {vs : List V}, rowsOf ts = some rows → RepL K C M H ts vs → DpAll K H vs (rows.map rowP) ∧ ∀ (i : Nat) (v : V) (r : List Int), vs[i]? = some v → rows[i]? = some r → Rep K C M H (.tup (r.map .int)) v
  | [], rows, vs, e, r => by
    cases e
    have : vs.length = 0 := r.length
    rw [List.length_eq_zero_iff.mp this]
    exact ⟨.nil, fun i v r h => by simp at h⟩
  | t :: ts, rows, vs, e, r => by
    cases t <;> first | (simp only [rowsOf] at e; cases e; done) | skip
    case tup us =>
    unfold rowsOf at e
    split at e
    · rename_i n ns e1 e2
      cases e
      unfold RepL at r
      obtain ⟨v, vs', rfl, r1, r2⟩ := r
      obtain ⟨k1, k2⟩ := rows_rep e2 r2
      have r1' := r1
      obtain ⟨a, ws, ev, hs, hr⟩ := rep_tup r1
      have ew := ints_rep e1 hr
      have eu : us = n.map D.int := ints_back e1
      refine ⟨.cons (by rw [ev]; exact .tup hs (by rw [ew]; exact dp_ints n)) k1, fun i w r h1 h2 => ?_⟩
      cases i with
      | zero =>
        cases h1
        cases h2
        rw [← eu]
        exact r1'
      | succ i => exact k2 i w r h1 h2
    · cases e
theorem blt_ok (p : Pre K Tb C M H δ) {b : Blt} {ds : List D} {z : D} {vs : List V} {Q : VK} {fr : Bool} (e : bltD δ b ds = some z) (r : RSL K C M H ds vs) (q : Post K Tb fr C M H δ z Q) : rBlt K b vs H Q := by
  unfold bltD at e
  split at e
  · cases e
    obtain ⟨v, rfl, h⟩ := rsl1 r
    exact ⟨_, by rw [rep_int (h.rep rfl)], q.hereN p mk_int (fun _ z => by cases z)⟩
  · split at e
    · rename_i hl
      cases e
      obtain ⟨v, rfl, h⟩ := rsl1 r
      exact .inl ⟨_, by rw [rep_str (h.rep rfl)], by rw [← line_eq]; exact hl, q.hereN p mk_int (fun _ z => by cases z)⟩
    · cases e
  · rw [Option.map_eq_some_iff] at e
    obtain ⟨ts, e1, e2⟩ := e
    obtain ⟨v, rfl, h⟩ := rsl1 r
    obtain ⟨a, ws, h1, h2, h3⟩ := seqD_rep p e1 h
    refine .inr ⟨a, ws, by rw [h1], h2, ?_⟩
    rw [h3.length]
    subst e2
    exact q.hereN p mk_int (fun _ z => by cases z)
  · cases e
    obtain ⟨v, rfl, h⟩ := rsl1 r
    exact .inl (.inl ⟨_, by rw [rep_int (h.rep rfl)], q.hereN p mk_int (fun _ z => by cases z)⟩)
  · cases e
    obtain ⟨v, rfl, h⟩ := rsl1 r
    exact .inl (.inr ⟨_, by rw [rep_bl (h.rep rfl)], q.hereN p mk_int (fun _ z => by cases z)⟩)
  · split at e
    · rename_i hl
      rw [Option.map_eq_some_iff] at e
      obtain ⟨n, e1, e2⟩ := e
      subst e2
      obtain ⟨v, rfl, h⟩ := rsl1 r
      exact .inr ⟨_, n, by rw [rep_str (h.rep rfl)], e1, hl, q.hereN p mk_int (fun _ z => by cases z)⟩
    · cases e
  · cases e
    obtain ⟨v, rfl, h⟩ := rsl1 r
    exact .inl ⟨_, by rw [rep_int (h.rep rfl)], q.hereN p mk_bl (fun _ z => by cases z)⟩
  · cases e
    obtain ⟨v, rfl, h⟩ := rsl1 r
    exact .inr ⟨_, by rw [rep_bl (h.rep rfl)], q.hereN p mk_bl (fun _ z => by cases z)⟩
  · rw [Option.map_eq_some_iff] at e
    obtain ⟨ts, e1, e2⟩ := e
    subst e2
    obtain ⟨v, rfl, h⟩ := rsl1 r
    obtain ⟨a, ws, h1, h2, h3⟩ := seqD_rep p e1 h
    refine ⟨a, ws, by rw [h1], ?_⟩
    rcases h2 with h2 | h2
    · exact .inl ⟨h2, q.tup p h3⟩
    · exact .inr ⟨h2, q.hereN p (mk_tup h2 h3) (fun _ z => by cases z)⟩
  · rw [Option.map_eq_some_iff] at e
    obtain ⟨ts, e1, e2⟩ := e
    subst e2
    obtain ⟨v, rfl, h⟩ := rsl1 r
    obtain ⟨a, ws, h1, h2, h3⟩ := seqD_rep p e1 h
    exact ⟨a, ws, by rw [h1], h2, q.lst p h3⟩
  · cases e
    obtain ⟨v, u, rfl, h, h'⟩ := rsl2 r
    exact ⟨_, _, by rw [rep_int (h.rep rfl), rep_int (h'.rep rfl)], q.hereN p mk_int (fun _ z => by cases z)⟩
  · cases e
    obtain ⟨v, u, rfl, h, h'⟩ := rsl2 r
    exact ⟨_, _, by rw [rep_int (h.rep rfl), rep_int (h'.rep rfl)], q.hereN p mk_int (fun _ z => by cases z)⟩
  · cases e
    obtain ⟨v, u, w, rfl, h, h', h''⟩ := rsl3 r
    exact ⟨_, _, _, by rw [rep_int (h.rep rfl), rep_int (h'.rep rfl), rep_int (h''.rep rfl)], q.hereN p mk_int (fun _ z => by cases z)⟩
  · rw [Option.map_eq_some_iff] at e
    obtain ⟨ns, e1, e2⟩ := e
    subst e2
    obtain ⟨v, rfl, h⟩ := rsl1 r
    obtain ⟨a, ws, e, h1, h2⟩ := mlst_rep h (.inl rfl)
    have := ints_rep e1 h2
    subst this
    exact ⟨a, ns, by rw [e], SqL.of h1, q.hereN p mk_int (fun _ z => by cases z)⟩
  · rw [Option.bind_eq_some_iff] at e
    obtain ⟨ns, e1, e2⟩ := e
    rw [Option.map_eq_some_iff] at e2
    obtain ⟨x, e2, e3⟩ := e2
    subst e3
    obtain ⟨v, rfl, h⟩ := rsl1 r
    obtain ⟨a, ws, e, h1, h2⟩ := mlst_rep h (.inl rfl)
    have := ints_rep e1 h2
    subst this
    refine .inl ⟨a, ns, by rw [e], SqL.of h1, ?_, fun m hm hy => ?_⟩
    · exact List.length_pos_iff.mpr fun z => by rw [z] at e2; cases e2
    · rw [max_is e2 hm hy]
      exact q.hereN p mk_int (fun _ z => by cases z)
  · rw [Option.bind_eq_some_iff] at e
    obtain ⟨ns, e1, e2⟩ := e
    rw [Option.map_eq_some_iff] at e2
    obtain ⟨x, e2, e3⟩ := e2
    subst e3
    obtain ⟨v, rfl, h⟩ := rsl1 r
    obtain ⟨a, ws, e, h1, h2⟩ := rep_tup (h.rep rfl)
    have := ints_rep e1 h2
    subst this
    refine .inr ⟨a, ns, by rw [e], h1, ?_, fun m hm hy => ?_⟩
    · exact List.length_pos_iff.mpr fun z => by rw [z] at e2; cases e2
    · rw [max_is e2 hm hy]
      exact q.hereN p mk_int (fun _ z => by cases z)
  · rw [Option.bind_eq_some_iff] at e
    obtain ⟨ns, e1, e2⟩ := e
    rw [Option.map_eq_some_iff] at e2
    obtain ⟨x, e2, e3⟩ := e2
    subst e3
    obtain ⟨v, rfl, h⟩ := rsl1 r
    obtain ⟨a, ws, e, h1, h2⟩ := mlst_rep h (.inl rfl)
    have := ints_rep e1 h2
    subst this
    refine ⟨a, ns, by rw [e], SqL.of h1, ?_, fun m hm hy => ?_⟩
    · exact List.length_pos_iff.mpr fun z => by rw [z] at e2; cases e2
    · rw [min_is e2 hm hy]
      exact q.hereN p mk_int (fun _ z => by cases z)
  · rw [Option.bind_eq_some_iff] at e
    obtain ⟨rows, e1, e2⟩ := e
    cases rows with
    | nil => cases e2
    | cons r0 rs =>
      cases e2
      obtain ⟨v, rfl, h⟩ := rsl1 r
      obtain ⟨a, ws, e, h1, h2⟩ := mlst_rep h (.inl rfl)
      obtain ⟨k1, k2⟩ := rows_rep e1 h2
      refine ⟨a, ws, r0, rs, by rw [e], SqL.of h1, k1, fun i w hw hr => ?_⟩
      have := k2 i w _ hw hr
      exact q.hereN p this (fun _ z => by cases z)
  · rw [Option.map_eq_some_iff] at e
    obtain ⟨ns, e1, e2⟩ := e
    subst e2
    obtain ⟨v, rfl, h⟩ := rsl1 r
    obtain ⟨a, ws, e, h1, h2⟩ := mlst_rep h (.inl rfl)
    have := ints_rep e1 h2
    subst this
    refine .inl (.inl ⟨a, ns, by rw [e], SqL.of h1, fun ns' l hp hs => ?_⟩)
    rw [sort_is hp hs]
    exact q.lst p (repL_sorted _) l
  · rw [Option.map_eq_some_iff] at e
    obtain ⟨ns, e1, e2⟩ := e
    subst e2
    obtain ⟨v, rfl, h⟩ := rsl1 r
    obtain ⟨a, ws, e, h1, h2⟩ := mlst_rep h (.inr rfl)
    have := ints_rep e1 h2
    subst this
    refine .inl (.inl ⟨a, ns, by rw [e], SqL.of h1, fun ns' l hp hs => ?_⟩)
    rw [sort_is hp hs]
    exact q.lst p (repL_sorted _) l
  · rw [Option.map_eq_some_iff] at e
    obtain ⟨ns, e1, e2⟩ := e
    subst e2
    obtain ⟨v, rfl, h⟩ := rsl1 r
    obtain ⟨a, ws, e, h1, h2⟩ := rep_tup (h.rep rfl)
    have := ints_rep e1 h2
    subst this
    refine .inl (.inr ⟨a, ns, by rw [e], h1, fun ns' l hp hs => ?_⟩)
    rw [sort_is hp hs]
    exact q.lst p (repL_sorted _) l
  · split at e
    · rename_i hl
      cases e
      obtain ⟨v, rfl, h⟩ := rsl1 r
      obtain ⟨a, ws, e, _, _, h1, h2⟩ := rep_tab (h.rep rfl)
      refine .inr ⟨a, _, _, by rw [e], h1, tabK_keys (h2.length.trans hl.2), hl.1, fun l hn => ?_⟩
      exact q.lst p (repL_strs _) l hn
    · cases e
  · split at e
    · rename_i hl
      cases e
      obtain ⟨v, rfl, h⟩ := rsl1 r
      refine ⟨_, by rw [rep_int (h.rep rfl)], ?_, q.hereN p mk_str (fun _ z => by cases z)⟩
      have := PySem.Flt.log2_lt_of (show 0 < 1000 by decide) (of_decide_eq_true hl)
      omega
    · cases e
  · rw [Option.bind_eq_some_iff] at e
    obtain ⟨t, e1, e2⟩ := e
    rw [Option.map_eq_some_iff] at e2
    obtain ⟨k, e2, e3⟩ := e2
    subst e3
    obtain ⟨v, u, rfl, h, h'⟩ := rsl2 r
    unfold isiT at e2
    split at e2
    · rename_i hc
      rw [Bool.and_eq_true, List.contains_iff_mem, List.contains_iff_mem] at hc
      have kb := isi_table t hc.1 _ hc.2
      rw [e2] at kb
      exact ⟨v, u, .type t, .type _, k, rfl, by rw [rep_ty (h'.rep rfl)]; exact .ty _, tyX_of p e1 h, kit_ty kb, q.hereN p mk_bl (fun _ z => by cases z)⟩
    · cases e2
  · cases e

def iK (K : PySem.W.Frag) : IK → List V → Hp → (It → Hp → Prop) → Prop
  | .seq => fun vs H R => ∃ a, vs = [.ref a] ∧ (((∃ xs, SqL K H a xs) ∧ R (Itl K a) H) ∨ ((∃ xs, SqT K H a xs) ∧ R (Itt K a) H))
  | .rng1 => fun vs H R => ∃ j : Int, vs = [.int j] ∧ -(2 ^ 62) ≤ j ∧ j < 2 ^ 62 ∧ R (Itr 0 j.toNat) H
  | .rng2 => fun vs H R => ∃ i j : Int, vs = [.int i, .int j] ∧ (-(2 ^ 62) ≤ i ∧ i < 2 ^ 62 ∧ -(2 ^ 62) ≤ j ∧ j < 2 ^ 62) ∧ R (Itr i (j - i).toNat) H
  | .rng3 => fun vs H R => ∃ (i j c : Int) (n : Nat), vs = [.int i, .int j, .int c] ∧ RgC i j c n ∧ R (Itc i c n) H
  | .zip => fun vs H R => ∃ a b xs ys, vs = [.ref a, .ref b] ∧ ((SqL K H a xs ∧ SqL K H b ys ∧ R (Itz K a b) H) ∨ (SqT K H a xs ∧ SqT K H b ys ∧ R (RZ.ItzT K a b) H))
  | .enum => fun vs H R => ∃ a xs, vs = [.ref a] ∧ ((SqL K H a xs ∧ R (Ite K a) H) ∨ (SqT K H a xs ∧ R (ET.Itet K a) H))
  | .rev => fun vs H R => ∃ a xs, vs = [.ref a] ∧ ((SqL K H a xs ∧ R (Itv K a xs.length) H) ∨ (SqT K H a xs ∧ R (RT.ItvT K a xs.length) H))
def Wk (K : PySem.W.Frag) (Tb : List (Addr × Str)) (J : It) (Gh : List (D × V)) (xs : List D) : Prop :=
  ∀ C M H δ, Pre K Tb C M H δ → (∀ g, g ∈ Gh → Rep K C M H g.1 g.2) → (∀ i, i < xs.length → J.go i H) ∧ J.stop xs.length H ∧
    ∀ i x H', i < xs.length → J.yld i H x H' → ∃ t, xs[i]? = some t ∧ Le C H C H' ∧ Pre K Tb C M H' δ ∧ Rep K C M H' t x
theorem rng_get {c : Int} : ∀ (n : Nat) (lo : Int) (i : Nat), i < n → (rngFrom lo c n)[i]? = some (.int (lo + (i : Int) * c))
  | 0, _, _, h => by omega
  | n + 1, lo, 0, _ => by simp [rngFrom]
  | n + 1, lo, i + 1, h => by
    show (rngFrom (lo + c) c n)[i]? = _
    rw [rng_get n (lo + c) i (by omega)]
    congr 2
    rw [Int.natCast_add, Int.add_mul]
    omega
theorem rng_len {c : Int} : ∀ (n : Nat) (lo : Int), (rngFrom lo c n).length = n
  | 0, _ => rfl
  | n + 1, lo => by show (rngFrom (lo + c) c n).length + 1 = n + 1; rw [rng_len n]
theorem enum_get : ∀ (ts : List D) (k i : Nat), (enumFrom k ts)[i]? = ts[i]?.map fun t => D.tup [.int ((k + i : Nat) : Int), t]
  | [], k, i => by simp [enumFrom]
  | t :: ts, k, 0 => by simp [enumFrom]
  | t :: ts, k, i + 1 => by
    show (enumFrom (k + 1) ts)[i]? = _
    rw [enum_get ts (k + 1) i]
    simp only [List.getElem?_cons_succ]
    rw [show k + 1 + i = k + (i + 1) by omega]
theorem enum_len : ∀ (ts : List D) (k : Nat), (enumFrom k ts).length = ts.length
  | [], _ => rfl
  | t :: ts, k => by show (enumFrom (k + 1) ts).length + 1 = _; rw [enum_len ts]; rfl
theorem wk_range {lo : Int} {n : Nat} : Wk K Tb (Itr lo n) [] (rngFrom lo 1 n) := by
  intro C M H δ p _
  rw [rng_len]
  refine ⟨fun i hi => hi, Nat.le_refl _, fun i x H' hi y => ?_⟩
  obtain ⟨e1, e2⟩ := y
  subst e1 e2
  exact ⟨_, rng_get n lo i hi, Le.refl C _, p, by rw [Int.mul_one]; exact mk_int⟩
theorem wk_rangeC {lo c : Int} {n : Nat} : Wk K Tb (Itc lo c n) [] (rngFrom lo c n) := by
  intro C M H δ p _
  rw [rng_len]
  refine ⟨fun i hi => hi, Nat.le_refl _, fun i x H' hi y => ?_⟩
  obtain ⟨e1, e2⟩ := y
  subst e1 e2
  exact ⟨_, rng_get n lo i hi, Le.refl C _, p, mk_int⟩
theorem lst_get {a : Addr} {ts : List D} (r : Rep K C M H (.lst ts) (.ref a)) : ∃ vs, SqL K H a vs ∧ RepL K C M H ts vs ∧ H a = some (.lst vs) := by
  obtain ⟨b, vs, e, _, _, h, h2⟩ := rep_lst r
  cases e
  exact ⟨vs, SqL.of h, h2, h⟩
theorem frz_get {a : Addr} {ts : List D} (r : Rep K C M H (.frz ts) (.ref a)) : ∃ vs, SqL K H a vs ∧ RepL K C M H ts vs := by
  obtain ⟨b, vs, e, h, h2⟩ := rep_frz r
  cases e
  exact ⟨vs, h.sq, h2⟩
theorem tup_get {a : Addr} {ts : List D} (r : Rep K C M H (.tup ts) (.ref a)) : ∃ vs, SqT K H a vs ∧ RepL K C M H ts vs := by
  obtain ⟨b, vs, e, h, h2⟩ := rep_tup r
  cases e
  exact ⟨vs, h, h2⟩
theorem wk_list {a : Addr} {ts : List D} {d : D} (hd : d = .lst ts ∨ d = .frz ts) : Wk K Tb (Itl K a) [(d, .ref a)] ts := by
  intro C M H δ p hg
  obtain ⟨vs, h, r⟩ : ∃ vs, SqL K H a vs ∧ RepL K C M H ts vs := by
    have := hg _ (List.mem_singleton.mpr rfl)
    rcases hd with hd | hd <;> subst hd
    · obtain ⟨vs, h1, h2, _⟩ := lst_get this; exact ⟨vs, h1, h2⟩
    · exact frz_get this
  have hl := r.length
  refine ⟨fun i hi => ?_, ⟨vs, h, by omega⟩, fun i x H' hi y => ?_⟩
  · obtain ⟨v, e, _⟩ := r.get (List.getElem?_eq_getElem hi)
    exact ⟨vs, v, h, e⟩
  · obtain ⟨e1, e2⟩ := y
    subst e1
    obtain ⟨v, e, rv⟩ := r.get (List.getElem?_eq_getElem hi)
    have := e2 vs h
    rw [e] at this; cases this
    exact ⟨_, List.getElem?_eq_getElem hi, Le.refl C _, p, rv⟩
theorem wk_tup {a : Addr} {ts : List D} : Wk K Tb (Itt K a) [(.tup ts, .ref a)] ts := by
  intro C M H δ p hg
  obtain ⟨vs, h, r⟩ := tup_get (hg _ (List.mem_singleton.mpr rfl))
  have hl := r.length
  refine ⟨fun i hi => ?_, ⟨vs, h, by omega⟩, fun i x H' hi y => ?_⟩
  · obtain ⟨v, e, _⟩ := r.get (List.getElem?_eq_getElem hi)
    exact ⟨vs, v, h, e⟩
  · obtain ⟨e1, e2⟩ := y
    subst e1
    obtain ⟨v, e, rv⟩ := r.get (List.getElem?_eq_getElem hi)
    have := e2 vs h
    rw [e] at this; cases this
    exact ⟨_, List.getElem?_eq_getElem hi, Le.refl C _, p, rv⟩
theorem pair_new (p : Pre K Tb C M H δ) {s t : D} {x y : V} {T : Addr} (hT : H T = none) (r1 : Rep K C M H s x) (r2 : Rep K C M H t y) :
    Le C H C (upd H T (.tup [x, y])) ∧ Pre K Tb C M (upd H T (.tup [x, y])) δ ∧ Rep K C M (upd H T (.tup [x, y])) (.tup [s, t]) (.ref T) := p.newTup (repL_cons r1 (.one r2)) hT
theorem wk_enum {a : Addr} {ts : List D} : Wk K Tb (Ite K a) [(.lst ts, .ref a)] (enumFrom 0 ts) := by
  intro C M H δ p hg
  obtain ⟨vs, h, r, _⟩ := lst_get (hg _ (List.mem_singleton.mpr rfl))
  have hl := r.length
  rw [enum_len]
  refine ⟨fun i hi => ?_, ⟨vs, h, by omega⟩, fun i x H' hi y => ?_⟩
  · obtain ⟨v, e, _⟩ := r.get (List.getElem?_eq_getElem hi)
    exact ⟨vs, v, h, e⟩
  · obtain ⟨T, w, e0, hT, e1, e2⟩ := y
    subst e1 e0
    obtain ⟨v, e, rv⟩ := r.get (List.getElem?_eq_getElem hi)
    have := e2 vs h
    rw [e] at this; cases this
    refine ⟨.tup [.int (i : Int), ts[i]], ?_, pair_new p hT mk_int rv⟩
    rw [enum_get, List.getElem?_eq_getElem hi]
    simp
theorem wk_enumT {a : Addr} {ts : List D} : Wk K Tb (ET.Itet K a) [(.tup ts, .ref a)] (enumFrom 0 ts) := by
  intro C M H δ p hg
  obtain ⟨vs, h, r⟩ := tup_get (hg _ (List.mem_singleton.mpr rfl))
  have hl := r.length
  rw [enum_len]
  refine ⟨fun i hi => ?_, ⟨vs, h, by omega⟩, fun i x H' hi y => ?_⟩
  · obtain ⟨v, e, _⟩ := r.get (List.getElem?_eq_getElem hi)
    exact ⟨vs, v, h, e⟩
  · obtain ⟨T, w, e0, hT, e1, e2⟩ := y
    subst e1 e0
    obtain ⟨v, e, rv⟩ := r.get (List.getElem?_eq_getElem hi)
    have := e2 vs h
    rw [e] at this; cases this
    refine ⟨.tup [.int (i : Int), ts[i]], ?_, pair_new p hT mk_int rv⟩
    rw [enum_get, List.getElem?_eq_getElem hi]
    simp
theorem zip_get {ta tb : List D} {i : Nat} {x y : D} (h1 : ta[i]? = some x) (h2 : tb[i]? = some y) : (zipD ta tb)[i]? = some (.tup [x, y]) := by
  unfold zipD
  rw [List.getElem?_map, List.getElem?_zip_eq_some (z := (x, y)) |>.mpr ⟨h1, h2⟩]
  rfl
theorem wk_zipL {a b : Addr} {ta tb : List D} : Wk K Tb (Itz K a b) [(.lst ta, .ref a), (.lst tb, .ref b)] (zipD ta tb) := by
  intro C M H δ p hg
  obtain ⟨vs, h, r, _⟩ := lst_get (hg (.lst ta, .ref a) (by simp))
  obtain ⟨ws, h', r', _⟩ := lst_get (hg (.lst tb, .ref b) (by simp))
  have hl := r.length
  have hl' := r'.length
  have hz : (zipD ta tb).length = min ta.length tb.length := by unfold zipD; simp
  rw [hz]
  refine ⟨fun i hi => ?_, ⟨vs, ws, h, h', by omega⟩, fun i x H' hi y => ?_⟩
  · obtain ⟨v, e, _⟩ := r.get (List.getElem?_eq_getElem (show i < ta.length by omega))
    obtain ⟨u, e', _⟩ := r'.get (List.getElem?_eq_getElem (show i < tb.length by omega))
    exact ⟨vs, ws, v, u, h, h', e, e'⟩
  · obtain ⟨T, w, w', e0, hT, e1, e2, e3⟩ := y
    subst e1 e0
    obtain ⟨v, e, rv⟩ := r.get (List.getElem?_eq_getElem (show i < ta.length by omega))
    obtain ⟨u, e', ru⟩ := r'.get (List.getElem?_eq_getElem (show i < tb.length by omega))
    have := e2 vs h
    rw [e] at this; cases this
    have := e3 ws h'
    rw [e'] at this; cases this
    exact ⟨_, zip_get (List.getElem?_eq_getElem (show i < ta.length by omega)) (List.getElem?_eq_getElem (show i < tb.length by omega)), pair_new p hT rv ru⟩
theorem wk_zipT {a b : Addr} {ta tb : List D} : Wk K Tb (RZ.ItzT K a b) [(.tup ta, .ref a), (.tup tb, .ref b)] (zipD ta tb) := by
  intro C M H δ p hg
  obtain ⟨vs, h, r⟩ := tup_get (hg (.tup ta, .ref a) (by simp))
  obtain ⟨ws, h', r'⟩ := tup_get (hg (.tup tb, .ref b) (by simp))
  have hl := r.length
  have hl' := r'.length
  have hz : (zipD ta tb).length = min ta.length tb.length := by unfold zipD; simp
  rw [hz]
  refine ⟨fun i hi => ?_, ⟨vs, ws, h, h', by omega⟩, fun i x H' hi y => ?_⟩
  · obtain ⟨v, e, _⟩ := r.get (List.getElem?_eq_getElem (show i < ta.length by omega))
    obtain ⟨u, e', _⟩ := r'.get (List.getElem?_eq_getElem (show i < tb.length by omega))
    exact ⟨vs, ws, v, u, h, h', e, e'⟩
  · obtain ⟨T, w, w', e0, hT, e1, e2, e3⟩ := y
    subst e1 e0
    obtain ⟨v, e, rv⟩ := r.get (List.getElem?_eq_getElem (show i < ta.length by omega))
    obtain ⟨u, e', ru⟩ := r'.get (List.getElem?_eq_getElem (show i < tb.length by omega))
    have := e2 vs h
    rw [e] at this; cases this
    have := e3 ws h'
    rw [e'] at this; cases this
    exact ⟨_, zip_get (List.getElem?_eq_getElem (show i < ta.length by omega)) (List.getElem?_eq_getElem (show i < tb.length by omega)), pair_new p hT rv ru⟩
theorem rev_get {ts : List D} {i : Nat} (hi : i < ts.length) : ts.reverse[i]? = ts[ts.length - 1 - i]? := List.getElem?_reverse hi
theorem wk_revL {a : Addr} {ts : List D} {n : Nat} (hn : n = ts.length) : Wk K Tb (Itv K a n) [(.lst ts, .ref a)] ts.reverse := by
  intro C M H δ p hg
  obtain ⟨vs, h, r, _⟩ := lst_get (hg _ (List.mem_singleton.mpr rfl))
  have hl := r.length
  rw [List.length_reverse]
  have w : Walk (Itv K a vs.length) vs.length (fun H => SqL K H a vs) (fun i H x H' => H' = H ∧ vs[vs.length - 1 - i]? = some x) := walk_rev
  have hn' : n = vs.length := by rw [hn, hl]
  subst hn'
  refine ⟨fun i hi => w.goes i H (by omega) h, by rw [← hl]; exact w.stops H h, fun i x H' hi y => ?_⟩
  obtain ⟨e1, e2⟩ := w.yields i H x H' (by omega) h y
  subst e1
  obtain ⟨v, e, rv⟩ := r.get (List.getElem?_eq_getElem (show ts.length - 1 - i < ts.length by omega))
  rw [hl, e] at e2; cases e2
  exact ⟨_, by rw [rev_get hi]; exact List.getElem?_eq_getElem (show ts.length - 1 - i < ts.length by omega), Le.refl C _, p, rv⟩
theorem wk_revT {a : Addr} {ts : List D} {n : Nat} (hn : n = ts.length) : Wk K Tb (RT.ItvT K a n) [(.tup ts, .ref a)] ts.reverse := by
  intro C M H δ p hg
  obtain ⟨vs, h, r⟩ := tup_get (hg _ (List.mem_singleton.mpr rfl))
  have hl := r.length
  rw [List.length_reverse]
  subst hn
  refine ⟨fun i hi => ?_, Nat.le_refl _, fun i x H' hi y => ?_⟩
  · obtain ⟨v, e, _⟩ := r.get (List.getElem?_eq_getElem (show ts.length - 1 - i < ts.length by omega))
    exact ⟨hi, vs, v, h, e⟩
  · obtain ⟨e1, e2⟩ := y
    subst e1
    obtain ⟨v, e, rv⟩ := r.get (List.getElem?_eq_getElem (show ts.length - 1 - i < ts.length by omega))
    have := e2 vs h
    rw [e] at this; cases this
    exact ⟨_, by rw [rev_get hi]; exact List.getElem?_eq_getElem (show ts.length - 1 - i < ts.length by omega), Le.refl C _, p, rv⟩
theorem rOk_of {i : Int} (h : rOk i = true) : -(2 ^ 62) ≤ i ∧ i < 2 ^ 62 := by
  unfold rOk at h
  rw [Bool.and_eq_true] at h
  exact ⟨of_decide_eq_true h.1, of_decide_eq_true h.2⟩
theorem items_ok {k : IK} {ds xs : List D} {vs : List V} (e : itemsD δ k ds = some xs) (r : RSL K C M H ds vs) :
    ∃ Gh J, (∀ g, g ∈ Gh → Rep K C M H g.1 g.2) ∧ Wk K Tb J Gh xs ∧ ∀ R : It → Hp → Prop, R J H → iK K k vs H R := by
  unfold itemsD at e
  split at e
  · cases e
    obtain ⟨v, rfl, h⟩ := rsl1 r
    obtain ⟨a, ws, e, h1, h2⟩ := rep_tup (h.rep rfl)
    subst e
    exact ⟨_, _, fun g hg => by rw [List.mem_singleton.mp hg]; exact h.rep rfl, wk_tup, fun R q => ⟨a, rfl, .inr ⟨⟨ws, h1⟩, q⟩⟩⟩
  · cases e
    obtain ⟨v, rfl, h⟩ := rsl1 r
    obtain ⟨a, ws, e, _, _, h1, h2⟩ := rep_lst (h.rep rfl)
    subst e
    exact ⟨_, _, fun g hg => by rw [List.mem_singleton.mp hg]; exact h.rep rfl, wk_list (.inl rfl), fun R q => ⟨a, rfl, .inl ⟨⟨ws, SqL.of h1⟩, q⟩⟩⟩
  · cases e
    obtain ⟨v, rfl, h⟩ := rsl1 r
    obtain ⟨a, ws, e, h1, h2⟩ := rep_frz (h.rep rfl)
    subst e
    exact ⟨_, _, fun g hg => by rw [List.mem_singleton.mp hg]; exact h.rep rfl, wk_list (.inr rfl), fun R q => ⟨a, rfl, .inl ⟨⟨ws, h1.sq⟩, q⟩⟩⟩
  · split at e
    · rename_i hr
      cases e
      obtain ⟨v, rfl, h⟩ := rsl1 r
      have := rOk_of hr
      exact ⟨[], _, fun g hg => absurd hg (by simp), wk_range, fun R q => ⟨_, by rw [rep_int (h.rep rfl)], this.1, this.2, q⟩⟩
    · cases e
  · split at e
    · rename_i hr
      cases e
      rw [Bool.and_eq_true] at hr
      obtain ⟨v, u, rfl, h, h'⟩ := rsl2 r
      have h1 := rOk_of hr.1
      have h2 := rOk_of hr.2
      exact ⟨[], _, fun g hg => absurd hg (by simp), wk_range, fun R q => ⟨_, _, by rw [rep_int (h.rep rfl), rep_int (h'.rep rfl)], ⟨h1.1, h1.2, h2.1, h2.2⟩, q⟩⟩
    · cases e
  · split at e
    · rename_i a b c hr
      cases e
      rw [Bool.and_eq_true, Bool.and_eq_true] at hr
      have h1 := rOk_of hr.1.1
      have h2 := rOk_of hr.1.2
      have h3 : c = -1 := of_decide_eq_true hr.2
      subst h3
      obtain ⟨v, r1, rfl, q1, h⟩ : ∃ v r, vs = v :: r ∧ RepS K C M H (.int a) v ∧ RSL K C M H [.int b, .int (-1)] r := r
      obtain ⟨u, z, rfl, q2, q3⟩ := rsl2 h
      exact ⟨[], _, fun g hg => absurd hg (by simp), wk_rangeC, fun R q => ⟨a, b, -1, _, by rw [rep_int (q1.rep rfl), rep_int (q2.rep rfl), rep_int (q3.rep rfl)], RgC.neg h1.1 h1.2 h2.1 h2.2, q⟩⟩
    · cases e
  · cases e
    obtain ⟨v, u, rfl, h, h'⟩ := rsl2 r
    obtain ⟨a, ws, e, h1, h2⟩ := rep_tup (h.rep rfl)
    obtain ⟨b, ws', e', h1', h2'⟩ := rep_tup (h'.rep rfl)
    subst e e'
    refine ⟨_, _, fun g hg => ?_, wk_zipT (a := a) (b := b), fun R q => ⟨a, b, ws, ws', rfl, .inr ⟨h1, h1', q⟩⟩⟩
    rcases List.mem_cons.mp hg with e | hg
    · rw [e]; exact h.rep rfl
    · rw [List.mem_singleton.mp hg]; exact h'.rep rfl
  · cases e
    obtain ⟨v, u, rfl, h, h'⟩ := rsl2 r
    obtain ⟨a, ws, e, _, _, h1, h2⟩ := rep_lst (h.rep rfl)
    obtain ⟨b, ws', e', _, _, h1', h2'⟩ := rep_lst (h'.rep rfl)
    subst e e'
    refine ⟨_, _, fun g hg => ?_, wk_zipL (a := a) (b := b), fun R q => ⟨a, b, ws, ws', rfl, .inl ⟨SqL.of h1, SqL.of h1', q⟩⟩⟩
    rcases List.mem_cons.mp hg with e | hg
    · rw [e]; exact h.rep rfl
    · rw [List.mem_singleton.mp hg]; exact h'.rep rfl
  · cases e
    obtain ⟨v, rfl, h⟩ := rsl1 r
    obtain ⟨a, ws, e, _, _, h1, h2⟩ := rep_lst (h.rep rfl)
    subst e
    exact ⟨_, _, fun g hg => by rw [List.mem_singleton.mp hg]; exact h.rep rfl, wk_enum, fun R q => ⟨a, ws, rfl, .inl ⟨SqL.of h1, q⟩⟩⟩
  · cases e
    obtain ⟨v, rfl, h⟩ := rsl1 r
    obtain ⟨a, ws, e, h1, h2⟩ := rep_tup (h.rep rfl)
    subst e
    exact ⟨_, _, fun g hg => by rw [List.mem_singleton.mp hg]; exact h.rep rfl, wk_enumT, fun R q => ⟨a, ws, rfl, .inr ⟨h1, q⟩⟩⟩
  · cases e
    obtain ⟨v, rfl, h⟩ := rsl1 r
    obtain ⟨a, ws, e, _, _, h1, h2⟩ := rep_lst (h.rep rfl)
    subst e
    exact ⟨_, _, fun g hg => by rw [List.mem_singleton.mp hg]; exact h.rep rfl, wk_revL h2.length, fun R q => ⟨a, ws, rfl, .inl ⟨SqL.of h1, q⟩⟩⟩
  · cases e
    obtain ⟨v, rfl, h⟩ := rsl1 r
    obtain ⟨a, ws, e, h1, h2⟩ := rep_tup (h.rep rfl)
    subst e
    exact ⟨_, _, fun g hg => by rw [List.mem_singleton.mp hg]; exact h.rep rfl, wk_revT h2.length, fun R q => ⟨a, ws, rfl, .inr ⟨h1, q⟩⟩⟩
  · cases e
end
end Mini

namespace GX
open PySem PySem.Spec PyProof.Rows L2 LamX GenW
abbrev gEnv (X : Cx) (scope : Scope) (C : Addr) (code : Value) : Env := genEnv scope (cloFrom X.env.cells scope.names []) C code builtinsNs X.env
abbrev gCx (X : Cx) (A : Around) (s : Shared) (H : Hp) (ge : Env) (fp : List Addr) : Cx :=
  { X with A := A, s_0 := s, H_0 := H, env := ge, outer := X.stack, stack := ge :: X.stack, ex := fp, fn := fun _ => false, calm := true, pn := [], xe := fun _ _ => False }
section
variable {X : Cx} {pins : List (Addr × Obj)} {σ : L2.St} {H : Hp} {s : Shared}
theorem gen_start {A : Around} {scope : Scope} {own : List (Str × Nat)} {fp : List Addr} {code : Value} {h₁ : Heap} {m0 : Str → Option Value} {g1 : Array GenState} {d1 : Drawn} {t1 : Nat} (I : Inv X pins σ H s) (ok : BlkOk X.N X.env.scope scope own) (nc : ∀ y ∈ scope.names, y.2 ≠ .cell) (hN : X.N.Nodup)
    (hfp : ∀ b ∈ fp, FpOk X pins H b ∧ b < s.heap.objs.size) (hA : A.handled = none) (hF : A.frames = some (gEnv X scope s.heap.objs.size code :: X.stack)) (hns : h₁.Ns s.heap.objs.size m0) (kp : ∀ b o, s.heap.get? b = some o → h₁.get? b = some o) (hg : AllBare g1) :
    Inv (gCx X A s H (gEnv X scope s.heap.objs.size code) fp) [] (wipe σ (own.map (·.2))) H { s with heap := h₁, gens := g1, drawn := d1, toks := t1 } := by
  have hfree : ∀ y ∈ scope.names, y.2 = .free → ∃ c, X.env.cells.lookup y.1 = some c := fun y hy e => by
    rcases ok.free y hy e with k | k
    · exact I.ok.has _ (.inl k)
    · exact I.ok.has _ (.inr k)
  have cm : ∀ {y c}, (cloFrom X.env.cells scope.names []).lookup y = some c → X.env.cells.lookup y = some c := fun {y c} e => by
    rcases cloFrom_mem (PySem.mem_of_lookup e) with hm | ⟨h1, h2⟩
    · cases hm
    · obtain ⟨c1, hc⟩ := hfree _ h1 rfl
      have hc : X.env.cells.lookup y = some c1 := hc
      have e2 : c = c1 := by
        rw [h2, hc] <;> rfl
      rw [e2]
      exact hc
  have look : ∀ {y}, scope.names.lookup y = some .free → ∃ c, (cloFrom X.env.cells scope.names []).lookup y = some c := fun {y} hl => by
    have hy : (y, NameKind.free) ∈ scope.names := PySem.mem_of_lookup hl
    exact mem_lookup (cloFrom_has (cells := X.env.cells) (acc := []) hy)
  have okB : (gCx X A s H (gEnv X scope s.heap.objs.size code) fp).Ok := by
    refine ⟨I.ok.mod, ok.kind, I.ok.glob, rfl, Nat.le_refl _, fun y z c e1 e2 => I.ok.inj y z c (cm e1) (cm e2), fun y hy => ?_, fun y c z _ => ?_, fun _ => hA, hF, .inr ⟨rfl, rfl⟩, fun b hb => ⟨Nat.ne_of_lt (hfp b hb).2, fun y c e => (hfp b hb).1.2.2.2.2.1 y c (cm e)⟩,
      I.bs, Nat.le_trans I.ok.bsz I.sz, fun b o e hb => ?_, fun b hb z => ?_, I.stack, I.stkFree⟩
    · have hy : scope.names.lookup y = some .cell ∨ scope.names.lookup y = some .free := hy
      rcases hy with hy | hy
      · exact absurd rfl (nc _ (PySem.mem_of_lookup hy))
      · exact look hy
    · have z : false = true := z
      cases z
    · rcases (hfp b hb).1.2.2.2.1 with z | z
      · exact I.ok.noex b o e z
      · exact absurd (Nat.lt_of_lt_of_le (Heap.lt_size e) (Nat.le_trans I.ok.bsz z)) (Nat.lt_irrefl _)
    · rcases List.mem_cons.mp (I.stkSub b z) with z | z
      · exact (hfp b hb).1.2.1 z
      · exact (hfp b hb).1.2.2.1 z
  refine ⟨okB, rfl, hg, Un.kept kp, ⟨m0, hns, fun i y av e1 e2 e3 => ?_⟩, fun y c e => ?_, I.hok.fresh (Nat.le_refl _), fun y c e => I.freeC y c (cm e), fun p hp => absurd (show p ∈ ([] : List (Addr × Obj)) ++ [] from hp) (by simp), I.hok.kept kp, by rw [wipe_length]; exact I.len⟩
  · obtain ⟨e2, hne⟩ := wipe_some e2
    have e3 : Vis scope y := e3
    have no : ∀ k, scope.names.lookup y = some k → ¬ (k = .local ∨ k = .cell) := fun k e hh => by
      rcases ok.own _ (PySem.mem_of_lookup e) hh with e' | e'
      · obtain ⟨p, hp, hpy⟩ := List.mem_map.mp e'
        have e3 := ok.ix p hp
        have : p.1 = y := hpy
        rw [this] at e3
        exact hne (List.mem_map.mpr ⟨p, hp, nodup_ix hN e3 e1⟩)
      · exact e' (List.mem_of_getElem? e1)
    have hfr : scope.names.lookup y = some .free := by
      rcases e3 with e3 | e3 | e3
      · exact absurd (.inl rfl) (no _ e3)
      · exact absurd (.inr rfl) (no _ e3)
      · exact e3
    obtain ⟨m, hn, hl⟩ := I.loc
    have hvis : Vis X.env.scope y := (ok.free _ (PySem.mem_of_lookup hfr) rfl).elim (fun k => .inr (.inl k)) (fun k => .inr (.inr k))
    obtain ⟨w, r, q⟩ := hl i y av e1 e2 hvis
    refine ⟨w, r, .inr ⟨.inr hfr, ?_⟩⟩
    obtain ⟨c, h1⟩ := look hfr
    refine ⟨c, h1, ?_⟩
    rcases q with ⟨k, _⟩ | ⟨_, c', e', z⟩
    · have k : X.env.scope.names.lookup y = some .local := k
      rcases ok.free _ (PySem.mem_of_lookup hfr) rfl with k' | k' <;> rw [show X.env.scope.names.lookup y = _ from k'] at k <;> cases k
    · rw [cm h1] at e'; cases e'
      exact z.keeps kp
  · obtain ⟨w, z⟩ := I.cell y c (cm e)
    exact ⟨w, z.keeps kp⟩
end

section
variable {X : Cx} {pins : List (Addr × Obj)} {σ : L2.St} {H : Hp} {s : Shared}
theorem inv_more {s' : Shared} (I : Inv X pins σ H s) (ho : s'.os = s.os) (k : ∀ b o, s.heap.get? b = some o → s'.heap.get? b = some o) (hg : AllBare s'.gens) : Inv X pins σ H s' :=
  I.call' (ch := []) ho (Un.kept k) (I.hok.kept k) hg fun b hb => absurd hb (by simp)
def Turns (b : Bool) (J : It) (g : TG) (tt : TT) (te : TE) (σw : L2.St) (vs : List Nat) (Q : VK) (W : Nat → Nat → Hp → Prop) : Prop :=
  ∀ i m H, W i m H → (J.stop i H ∧ Q (.bl !b) H) ∨ (J.go i H ∧ ∃ Nx : Hp → Prop, (∀ H', Nx H' → ∃ m', m' < m ∧ W (i + 1) m' H') ∧ ∀ x H', J.yld i H x H' → g x σw H' fun σ2 H2 => wipe σ2 vs = σw ∧ tt σ2 H2 fun k H3 =>
    if k = true then te σ2 H3 fun y H4 => ∃ r, y = .bl r ∧ (if r = b then Q (.bl b) H4 else Nx H4) else Nx H3)
def EndR (X : Cx) (a : Addr) (go : Obj) (b : Bool) (Q : VK) : Nat → Shared → Shared → Prop := fun _ _ s₁ => ∃ σ' H', Inv X [(a, go)] σ' H' s₁ ∧ Q (.bl !b) H'
def YieldY (X : Cx) (a : Addr) (go : Obj) (gn : Nat) (b : Bool) (Q : VK) : Protocol := fun _ _ v s₁ kap => ∃ r, v = .bool r ∧ AllBare s₁.gens ∧ s₁.heap.NoLimit ∧ s₁.heap.IsGen a gn ∧
  (r = b → ∃ σ' H', Inv X [(a, go)] σ' H' s₁ ∧ Q (.bl b) H') ∧ (r ≠ b → ∀ s', s'.os = s₁.os → AllBare s'.gens → (∀ x o, s₁.heap.get? x = some o → s'.heap.get? x = some o) → kap (.send .none) s')
abbrev loopC (elt tg iter : Expr) (ifs : List Expr) (scope : Scope) (pos : Pos) (it : Addr) (env : Env) : Code := .compLoop (.GeneratorExp elt [⟨tg, iter, ifs, 0⟩] scope pos) 0 (.ref it) .none env
end
section
variable {X : Cx} {elt tg iter : Expr} {ifs : List Expr} {scope : Scope} {pos : Pos} {it a : Addr} {fp : List Addr} {tn : Nat → Heap → Prop} {J : It} {σw : L2.St} {vs : List Nat} {go : Obj} {gn : Nat} {g : TG} {tt : TT} {te : TE} {b : Bool} {Q : VK} {W : Nat → Nat → Hp → Prop} {A : Around}
theorem seg_gx (hA : X.A = A.over (loopC elt tg iter ifs scope pos it X.env) []) (hc : X.calm = true) (hpn : X.pn = []) (hxe : X.xe = fun _ _ => False) (hco : X.env.scope.isCoroutine = false) (hgo : ∀ h : Heap, h.get? a = some go → h.IsGen a gn) (T : Turn X.prog X.w X.K tg J fp it tn) (hex : ∀ b ∈ fp, b ∈ X.ex) (hafp : ∀ b ∈ fp, a ≠ b)
    (pg : PG X tg g) (pt : PTs X ifs tt) (pe : PE X elt te) (hvs : ∀ σ' : L2.St, wipe σ' vs = σw → σw.length = σ'.length ∧ ∀ (j : Nat) (v : V), σw[j]? = some (some v) → σ'[j]? = some (some v)) (turn : Turns b J g tt te σw vs Q W) :
    ∀ (m n i : Nat) (s₀ s : Shared) (H : Hp), m < n → W i m H → Inv X [(a, go)] σw H s → tn i s.heap → (∀ b ∈ fp, H b = none) →
      Seg (model X.prog X.w) A (fun n s₀ r s₁ => r = .ok .next ∧ EndR X a go b Q n s₀ s₁) (YieldY X a go gn b Q) n s₀ (loopC elt tg iter ifs scope pos it X.env) ((model X.prog X.w).den (loopC elt tg iter ifs scope pos it X.env)) [] s := by
  have stat : ∀ {σ' : L2.St} {H' : Hp} {s' : Shared}, Inv X [(a, go)] σ' H' s' → (∀ b ∈ fp, H' b = none) → ∀ b ∈ fp, FpOk X [(a, go)] H' b := fun {σ' H' s'} I' hn b hb =>
    ⟨hn b hb, (I'.ok.exf b (hex b hb)).1, I'.ok.exfs b (hex b hb), .inl (hex b hb), fun x c e => (I'.ok.exf b (hex b hb)).2 x c e, fun p hp => by
      rw [hpn, List.nil_append] at hp
      rw [List.mem_singleton.mp hp]
      exact hafp b hb⟩
  intro m
  induction m using Nat.strongRecOn with
  | ind m ih =>
    intro n i s₀ s H hmn hw I hst hn
    show Seg _ A _ _ _ s₀ _ ((compTurn (.GeneratorExp elt [⟨tg, iter, ifs, 0⟩] scope pos) 0 (.ref it) .none X.env).onRaise (leaving X.env)) [] s
    rw [compTurn_gen, Sem.onRaise_eq_wrap]
    refine seg_bind_wrap (wpAny_standAt ?_)
    rcases turn i m H hw with ⟨stop, hq⟩ | ⟨hgo2, Nx, hNx, step⟩
    · refine seg_bind_wrap ?_
      rw [← hA]
      refine thnF (T.done X rfl rfl rfl hc i [(a, go)] s σw H (fun _ _ => False) I (stat I hn) hst stop) fun r s1 ⟨hr, I1⟩ => ?_
      subst hr
      exact seg_end (.ok .next) ⟨rfl, σw, H, I1, hq⟩
    · refine seg_bind_wrap ?_
      rw [← hA]
      refine thnF (T.item X rfl rfl rfl hc i [(a, go)] s σw H (fun _ _ => False) I (stat I hn) hst hgo2) fun r s1 ⟨u, hr, h6⟩ => ?_
      subst hr
      refine seg_bind_wrap ?_
      rw [← hA]
      refine thnF h6 fun _ s7 ⟨x, H7, I7, r7, y7, st7, n7⟩ => ?_
      have I7' := I7.pinned (stat I7 n7) (T.obj _ _ st7)
      refine seg_bind_wrap ?_
      rw [← hA]
      have e1 := pg.run _ s7 _ H7 x u _ I7' r7 (step x H7 y7)
      rw [hxe] at e1
      refine thnF e1 fun _ s8 ⟨σ8, H8, I8, hw8, q8⟩ => ?_
      refine seg_bind_wrap ?_
      rw [← hA]
      have e2 := pt.run _ s8 σ8 H8 _ I8 q8
      rw [hxe] at e2
      refine thnF e2 fun k s9 ⟨H9, I9, q9⟩ => ?_
      -- the turn's end
      obtain ⟨hl, hwk⟩ := hvs σ8 hw8
      have fin : ∀ {s' : Shared} {H' : Hp}, Inv X ([(a, go)] ++ pinsAt fp s7.heap) σ8 H' s' → Inv X [(a, go)] σw H' s' ∧ tn (i + 1) s'.heap ∧ ∀ b ∈ fp, H' b = none := fun {s' H'} I' => by
        have pin' : ∀ b ∈ fp, ∀ o, s7.heap.get? b = some o → s'.heap.get? b = some o ∧ H' b = none := fun b hb o e =>
          let z := I'.pin (b, o) (List.mem_append_right _ (List.mem_append_right _ (mem_pinsAt hb e)))
          ⟨z.1, z.2.1⟩
        refine ⟨(I'.unpinned (pins := [(a, go)])).weak hl fun j v e => hwk j v e, T.keep _ _ _ st7 fun b hb o e => (pin' b hb o e).1, fun b hb => ?_⟩
        obtain ⟨o, e, _⟩ := T.obj _ _ st7 b hb
        exact (pin' b hb o e).2
      cases k with
      | false =>
        simp only [Bool.false_eq_true, if_false] at q9 ⊢
        obtain ⟨m', hm, w'⟩ := hNx _ q9
        obtain ⟨J1, J2, J3⟩ := fin I9
        exact seg_again rfl (ih m' hm n (i + 1) s₀ s9 H9 (by omega) w' J1 J2 J3)
      | true =>
        simp only [if_true] at q9 ⊢
        have hy : ∀ v, yieldOut X.env v = yieldValue v := fun v => by simp only [yieldOut, hco, Bool.false_eq_true, if_false]
        simp only [hy]
        rw [Sem.bind_eq_wrap', Sem.bind_eq_wrap', Sem.wrap_wrap, Sem.wrap_wrap]
        have e3 := pe.run _ s9 σ8 H9 _ I9 q9
        rw [hxe] at e3
        refine seg_wrap ?_
        rw [← hA]
        refine thnF e3 fun z s10 ⟨yv, H10, I10, r10, r, ey, q10⟩ => ?_
        subst ey
        obtain rfl : z = Value.bool r := r10
        obtain ⟨J1, J2, J3⟩ := fin I10
        have gi : s10.heap.IsGen a gn := hgo _ (J1.pin (a, go) (List.mem_append_right _ (List.mem_singleton.mpr rfl))).1
        by_cases hr : r = b
        · rw [if_pos hr] at q10
          cases n with
          | zero => omega
          | succ n =>
            refine seg_at (seg_yield rfl rfl rfl ⟨r, rfl, J1.bare, J1.nolimit, gi, fun _ => ⟨σw, H10, J1, q10⟩, fun h => absurd hr h⟩)
        · rw [if_neg hr] at q10
          obtain ⟨m', hm, w'⟩ := hNx _ q10
          cases n with
          | zero => omega
          | succ n =>
            refine seg_at (seg_yield rfl rfl rfl ⟨r, rfl, J1.bare, J1.nolimit, gi, fun h => absurd h hr, fun _ s' ho hb hk => ?_⟩)
            refine seg_again rfl (ih m' hm n (i + 1) s' s' H10 (by omega) w' (inv_more J1 ho hk hb) (T.keep _ _ _ J2 fun b _ o e => hk b o e) J3)
end

section
variable {X : Cx} {elt tg iter : Expr} {ifs : List Expr} {scope : Scope} {pos : Pos} {it a : Addr} {fp : List Addr} {tn : Nat → Heap → Prop} {J : It} {σw : L2.St} {vs : List Nat} {go : Obj} {gn : Nat} {g : TG} {tt : TT} {te : TE} {b : Bool} {Q : VK} {W : Nat → Nat → Hp → Prop} {A : Around}
theorem seg_gxStart (hA : X.A = A.over (loopC elt tg iter ifs scope pos it X.env) []) (hc : X.calm = true) (hpn : X.pn = []) (hxe : X.xe = fun _ _ => False) (hco : X.env.scope.isCoroutine = false) (hgo : ∀ h : Heap, h.get? a = some go → h.IsGen a gn) (T : Turn X.prog X.w X.K tg J fp it tn) (hex : ∀ b ∈ fp, b ∈ X.ex) (hafp : ∀ b ∈ fp, a ≠ b)
    (pg : PG X tg g) (pt : PTs X ifs tt) (pe : PE X elt te) (hvs : ∀ σ' : L2.St, wipe σ' vs = σw → σw.length = σ'.length ∧ ∀ (j : Nat) (v : V), σw[j]? = some (some v) → σ'[j]? = some (some v)) (turn : Turns b J g tt te σw vs Q W)
    {m n : Nat} {s₀ s : Shared} {H : Hp} (hmn : m < n) (hw : W 0 m H) (I : Inv X [(a, go)] σw H s) (hst : tn 0 s.heap) (hn : ∀ b ∈ fp, H b = none) :
    Seg (model X.prog X.w) A (fun n s₀ r s₁ => r = .ok .next ∧ EndR X a go b Q n s₀ s₁) (YieldY X a go gn b Q) n s₀ (.compStart (.GeneratorExp elt [⟨tg, iter, ifs, 0⟩] scope pos) 0 (.ref it) .none X.env) ((model X.prog X.w).den (.compStart (.GeneratorExp elt [⟨tg, iter, ifs, 0⟩] scope pos) 0 (.ref it) .none X.env)) [] s := by
  have loop := seg_gx (elt := elt) (iter := iter) (scope := scope) (pos := pos) hA hc hpn hxe hco hgo T hex hafp pg pt pe hvs turn m n 0 s₀ s H hmn hw I hst hn
  show Seg _ A _ _ _ s₀ _ ((compStart (.GeneratorExp elt [⟨tg, iter, ifs, 0⟩] scope pos) 0 (.ref it) .none X.env).onRaise (leaving X.env)) [] s
  unfold compStart
  rw [Sem.onRaise_eq_wrap]
  show Seg _ A _ _ _ s₀ _ ((ask >>= _).wrap _ _ _ _) [] s
  refine seg_bind_wrap (wpAny_askSetting ?_)
  split
  · exact seg_again rfl loop
  · first
      | exact seg_bind_wrap (wpAny_rule (seg_bind_wrap (wpAny_standAt (seg_bind_wrap (T.self _ 0 s _ _ hst (seg_again rfl loop))))))
      | (refine seg_bind_wrap (wpAny_rule ?_); show Seg _ A _ _ _ s₀ _ ((standAt iter.pos >>= _).wrap _ _ _ _) [] s; exact seg_bind_wrap (wpAny_standAt (seg_bind_wrap (T.self _ 0 s _ _ hst (seg_again rfl loop)))))
end
section
variable {X : Cx} {a : Addr} {go : Obj} {gn : Nat} {b : Bool} {Q : VK} {A : Around} {R : Result → Shared → Prop}
def loopId (b : Bool) : String := if b = true then "any.loop" else "all.loop"
theorem consume (hh : A.handled = none) (hroom : A.depth < recursionLimit)
    (hR : ∀ (k : Bool) (σ' : L2.St) (H' : Hp) (s' : Shared), Inv X [(a, go)] σ' H' s' → Q (.bl k) H' → R (.ok (.ret (.bool k))) s') :
    ∀ (n : Nat) (s : Shared), s.heap.IsGen a gn → s.heap.NoLimit →
      (∃ gs, s.gens[gn]? = some gs ∧ gs.Goes (model X.prog X.w) A.in1.in1 (fun n s₀ r s₁ => r = .ok .next ∧ EndR X a go b Q n s₀ s₁) (YieldY X a go gn b Q) n (.send .none) (s.setGen gn .running)) →
      codeAny (model X.prog X.w) A (.builtin (loopId b) ⟨[.ref a], []⟩) R s := by
  have fin : ∀ s₁, EndR X a go b Q 0 s₁ s₁ → ∀ h', (∀ x o, s₁.heap.get? x = some o → h'.get? x = some o) → R (.ok (.ret (.bool !b))) { s₁.setGen gn .finished with heap := h' } := fun s₁ ⟨σ', H', I, q⟩ h' hk =>
    hR _ σ' H' _ (inv_more (s' := { s₁.setGen gn .finished with heap := h' }) I rfl hk (allBare_setGen I.bare rfl)) q
  intro n
  induction n with
  | zero =>
    intro s hg hl ⟨gs, hgs, hgo⟩
    cases b with
    | false =>
      refine codeAny_builtin F.entry_all_loop ?_
      rw [show loopId false = "all.loop" from rfl, Around.under_plainId F.plain_all_loop _]
      show wpAny _ A.in1 (pyNext (.ref a) >>= _) _ _ s
      refine wpAny_bind ((wpAny_pyNext_genexpQ (A := A.in1) (P := EndR X a go false Q) hh hl hroom hg hgs hgo (fun v s₁ gs' hb hv => ?_) (fun s₁ hp h' hk => ?_)))
      · skip
        obtain ⟨r, rfl, hbr, hl1, hg1, h1, h2⟩ := hv
        refine wpAny_bind (wpAny_holding (wpAny_truthy_bool ?_))
        refine wpAny_bind (wpAny_letGo ?_)
        cases r with
        | false =>
          simp only [Bool.false_eq_true, if_false]
          refine wpAny_bind (wpAny_rule (wpAny_pure ?_))
          obtain ⟨σ', H', I, q⟩ := h1 rfl
          exact hR false σ' H' _ (inv_more (s' := s₁.setGen gn gs') I rfl (fun _ _ e => e) (allBare_setGen I.bare hb)) q
        | true =>
          simp only [if_true]
          exact (h2 (by decide) s₁ rfl hbr (fun _ _ e => e)).elim
      · skip
        refine wpAny_bind (wpAny_rule (wpAny_pure ?_))
        exact fin s₁ hp h' hk
    | true =>
      refine codeAny_builtin F.entry_any_loop ?_
      rw [show loopId true = "any.loop" from rfl, Around.under_plainId F.plain_any_loop _]
      show wpAny _ A.in1 (pyNext (.ref a) >>= _) _ _ s
      refine wpAny_bind ((wpAny_pyNext_genexpQ (A := A.in1) (P := EndR X a go true Q) hh hl hroom hg hgs hgo (fun v s₁ gs' hb hv => ?_) (fun s₁ hp h' hk => ?_)))
      · skip
        obtain ⟨r, rfl, hbr, hl1, hg1, h1, h2⟩ := hv
        refine wpAny_bind (wpAny_holding (wpAny_truthy_bool ?_))
        refine wpAny_bind (wpAny_letGo ?_)
        cases r with
        | false =>
          simp only [Bool.false_eq_true, if_false]
          exact (h2 (by decide) s₁ rfl hbr (fun _ _ e => e)).elim
        | true =>
          simp only [if_true]
          refine wpAny_bind (wpAny_rule (wpAny_pure ?_))
          obtain ⟨σ', H', I, q⟩ := h1 rfl
          exact hR true σ' H' _ (inv_more (s' := s₁.setGen gn gs') I rfl (fun _ _ e => e) (allBare_setGen I.bare hb)) q
      · skip
        refine wpAny_bind (wpAny_rule (wpAny_pure ?_))
        exact fin s₁ hp h' hk
  | succ n ih =>
    intro s hg hl ⟨gs, hgs, hgo⟩
    have hgl : gn < s.gens.size := (Array.getElem?_eq_some_iff.mp hgs).1
    cases b with
    | false =>
      refine codeAny_builtin F.entry_all_loop ?_
      rw [show loopId false = "all.loop" from rfl, Around.under_plainId F.plain_all_loop _]
      show wpAny _ A.in1 (pyNext (.ref a) >>= _) _ _ s
      refine wpAny_bind (wpAny_gsz (n := gn + 1) hgl (wpAny_pyNext_genexpQ (A := A.in1) (P := EndR X a go false Q) hh hl hroom hg hgs hgo (fun v s₁ gs' hb hv => ?_) (fun s₁ hp h' hk => ?_)))
      · intro hsz
        obtain ⟨r, rfl, hbr, hl1, hg1, h1, h2⟩ := hv
        refine wpAny_bind (wpAny_holding (wpAny_truthy_bool ?_))
        refine wpAny_bind (wpAny_letGo ?_)
        cases r with
        | false =>
          simp only [Bool.false_eq_true, if_false]
          refine wpAny_bind (wpAny_rule (wpAny_pure ?_))
          obtain ⟨σ', H', I, q⟩ := h1 rfl
          exact hR false σ' H' _ (inv_more (s' := s₁.setGen gn gs') I rfl (fun _ _ e => e) (allBare_setGen I.bare hb)) q
        | true =>
          simp only [if_true]
          refine wpAny_pure ⟨plainId_quiet F.plain_all_loop _, ?_⟩
          have hsz1 : gn < s₁.gens.size := by
            have q : (s₁.setGen gn gs').gens.size = s₁.gens.size := setGen_size _ _ _
            have hsz' : gn + 1 ≤ (s₁.setGen gn gs').gens.size := hsz
            omega
          exact ih (s₁.setGen gn gs') hg1 hl1 ⟨gs', setGen_at hsz1, h2 (by decide) ((s₁.setGen gn gs').setGen gn .running) rfl (allBare_setGen (allBare_setGen hbr hb) rfl) (fun _ _ e => e)⟩
      · intro hsz
        refine wpAny_bind (wpAny_rule (wpAny_pure ?_))
        exact fin s₁ hp h' hk
    | true =>
      refine codeAny_builtin F.entry_any_loop ?_
      rw [show loopId true = "any.loop" from rfl, Around.under_plainId F.plain_any_loop _]
      show wpAny _ A.in1 (pyNext (.ref a) >>= _) _ _ s
      refine wpAny_bind (wpAny_gsz (n := gn + 1) hgl (wpAny_pyNext_genexpQ (A := A.in1) (P := EndR X a go true Q) hh hl hroom hg hgs hgo (fun v s₁ gs' hb hv => ?_) (fun s₁ hp h' hk => ?_)))
      · intro hsz
        obtain ⟨r, rfl, hbr, hl1, hg1, h1, h2⟩ := hv
        refine wpAny_bind (wpAny_holding (wpAny_truthy_bool ?_))
        refine wpAny_bind (wpAny_letGo ?_)
        cases r with
        | false =>
          simp only [Bool.false_eq_true, if_false]
          refine wpAny_pure ⟨plainId_quiet F.plain_any_loop _, ?_⟩
          have hsz1 : gn < s₁.gens.size := by
            have q : (s₁.setGen gn gs').gens.size = s₁.gens.size := setGen_size _ _ _
            have hsz' : gn + 1 ≤ (s₁.setGen gn gs').gens.size := hsz
            omega
          exact ih (s₁.setGen gn gs') hg1 hl1 ⟨gs', setGen_at hsz1, h2 (by decide) ((s₁.setGen gn gs').setGen gn .running) rfl (allBare_setGen (allBare_setGen hbr hb) rfl) (fun _ _ e => e)⟩
        | true =>
          simp only [if_true]
          refine wpAny_bind (wpAny_rule (wpAny_pure ?_))
          obtain ⟨σ', H', I, q⟩ := h1 rfl
          exact hR true σ' H' _ (inv_more (s' := s₁.setGen gn gs') I rfl (fun _ _ e => e) (allBare_setGen I.bare hb)) q
      · intro hsz
        refine wpAny_bind (wpAny_rule (wpAny_pure ?_))
        exact fin s₁ hp h' hk
end

def tGx (T : List (Addr × Str)) (b : Bool) (wi : TI) (g : TG) (tt : TT) (te : TE) (vs : List Nat) : TE := fun σ H Q => wi σ H fun J H1 => Tabs T H1 ∧ ∀ H2, ExtN H1 H2 → Tabs T H2 → ∃ W : Nat → Nat → Hp → Prop, (∃ m, W 0 m H2) ∧ Turns b J g tt te (wipe σ vs) vs Q W
def gxName (b : Bool) : Str := if b = true then "any" else "all"
section
variable {X : Cx} {pins : List (Addr × Obj)} {σ : L2.St} {H : Hp} {s : Shared}
structure GxS (X : Cx) (scope : Scope) (own : List (Str × Nat)) : Prop where
  blk : BlkOk X.N X.env.scope scope own
  co : scope.isCoroutine = false
  cell : ∀ y ∈ scope.names, y.2 ≠ .cell
  dot : scope.names.lookup (".0" : Str) = some NameKind.local
theorem gx_make {T : List (Addr × Str)} {c P : Addr} {elt tg iter : Expr} {ifs : List Expr} {scope : Scope} {own : List (Str × Nat)} {gpos : Pos} {wi : TI} {Pq : It → Hp → Prop} {k : Nat} {Q' : Value → Shared → Prop}
    (hN : X.N.Nodup) (hroom : Room (k + 1) X.A) (TB : LamX.TabB X.base X.mg c P) (hcode : X.env.code = .ref c) (S : GxS X scope own) (hm : (P, X.env.qual ++ "<genexpr>") ∈ T) (hu : ∀ p ∈ T, p.1 = P → p.2 = X.env.qual ++ "<genexpr>")
    (hi : PI X tg iter wi) (hs : ∀ v, genFold iter X.env v = pure v) (I : Inv X pins σ H s)
    (h : wi σ H fun J H1 => Tabs T H1 ∧ ∀ H2, ExtN H1 H2 → Tabs T H2 → Pq J H2)
    (hQ : ∀ (s4 : Shared) (H3 : Hp) (code : Value) (it a : Addr) (fp : List Addr) (tn : Nat → Heap → Prop) (J : It) (gn : Nat) (go : Obj) (s5 : Shared), Inv X pins σ H3 s4 → (∀ b ∈ fp, FpOk X pins H3 b ∧ b < s4.heap.objs.size) → Turn X.prog X.w X.K tg J fp it tn → tn 0 s5.heap → Pq J H3 →
      s5.os = s4.os → AllBare s5.gens → (∀ (A : Around), A.handled = none → A.frames = some (gEnv X scope s4.heap.objs.size code :: X.stack) → Inv (gCx X A s4 H3 (gEnv X scope s4.heap.objs.size code) fp) [(a, go)] (wipe σ (own.map (·.2))) H3 s5) →
      (∀ h : Heap, h.get? a = some go → h.IsGen a gn) → (∀ b ∈ fp, a ≠ b) → s5.gens[gn]? = some (.fresh (.compStart (.GeneratorExp elt [⟨tg, iter, ifs, 0⟩] scope gpos) 0 (.ref it) .none (gEnv X scope s4.heap.objs.size code))) → Q' (.ref a) s5) :
    wpAny (model X.prog X.w) X.A (eval (.GeneratorExp elt [⟨tg, iter, ifs, 0⟩] scope gpos) X.env) Q' X.xe s := by
  have hfree : ∀ y ∈ scope.names, y.2 = .free → ∃ c, X.env.cells.lookup y.1 = some c := fun y hy e => by
    rcases S.blk.free y hy e with k | k
    · exact I.ok.has _ (.inl k)
    · exact I.ok.has _ (.inr k)
  refine wpAny_GeneratorExp_make S.co (closure_ok hfree) S.cell S.dot S.blk.kind (by have := hroom.dp; omega) ?_ hs
  refine thn (hi.run pins s σ H _ I h) fun xv s1 hx => thn hx fun itv s2 h2 => ?_
  obtain ⟨it, fp, tn, J, H2, e, I2, Tu, st2, f2, hT, q⟩ := h2
  subst e
  refine ⟨I2.nolimit, ?_⟩
  obtain ⟨ps, hP, ht, hA⟩ := hT _ hm
  have hPs : s2.heap.get? P = some { cls := .none, data := .fields ps } := I2.hok P _ hP
  have hPlt : P < s2.heap.objs.size := Heap.lt_size hPs
  have cd : PySem.W.CodeHd s2.heap c P := TB.code.keeps I2.bk
  have sz : ∀ b ∈ fp, b < s2.heap.objs.size := fun b hb => by
    obtain ⟨o, e, _⟩ := Tu.obj _ _ st2 b hb
    exact Heap.lt_size e
  have nPfp : ∀ b ∈ fp, b ≠ P := fun b hb z => by
    have := (f2 b hb).1
    rw [z, hP] at this
    cases this
  have cont : ∀ (code : Value) (h3 : Heap) (tk : Nat) (H3 : Hp), Heap.ExtBut P s2.heap h3 → s2.heap.objs.size ≤ h3.objs.size → Inv X pins σ H3 { s2 with heap := h3, toks := tk } → ExtN H2 H3 → Tabs T H3 → (∀ b ∈ fp, H3 b = none) →
      wpAny (model X.prog X.w) X.A (builtinsFor X.env.globals X.env.builtins) (fun bi s₄ =>
        ∀ h', h'.Ns s₄.heap.objs.size (fun y => if y = ".0" then some (.ref it) else none) → Heap.SameBut s₄.heap.objs.size (s₄.heap.push { cls := .type "frame", data := .dict #[] }) h' →
          Q' (.ref h'.objs.size) { s₄ with
            gens := s₄.gens.push (.fresh (.compStart (.GeneratorExp elt [⟨tg, iter, ifs, 0⟩] scope gpos) 0 (.ref it) .none (genEnv scope (cloFrom X.env.cells scope.names []) s₄.heap.objs.size code bi X.env))),
            toks := s₄.toks + 1 + 1 + 1,
            heap := h'.push { cls := .type "generator", data := .fields #[.int s₄.gens.size 0, .str "<genexpr>" (s₄.toks + 1), .str (X.env.qual ++ "<genexpr>") (s₄.toks + 1 + 1)] } }) X.xe { s2 with heap := h3, toks := tk } := by
    intro code h3 tk H3 hx hsz I3 hE hT3 nfp
    obtain ⟨bm, ob, e1, e2, e3, e4, e5, e6, e7, e8⟩ := TB.bm
    refine wpAny_builtinsFor (m := X.mg) (by rw [I3.ok.glob]; exact I3.mod.glob.keeps I3.bk) e1 e2 (I3.bk _ _ e5) e6 e7 e8 ?_
    intro h' hn' hs'
    have hn' : h'.Ns h3.objs.size (fun y => if y = ".0" then some (.ref it) else none) := hn'
    have hs' : Heap.SameBut h3.objs.size (h3.push { cls := .type "frame", data := .dict #[] }) h' := hs'
    have keep' : ∀ b o, h3.get? b = some o → h'.get? b = some o := fun b o e => hs'.extBut b o (Nat.ne_of_lt (Heap.lt_size e)) (Heap.get?_push_of_some _ e)
    have hsz' : h'.objs.size = h3.objs.size + 1 := by rw [hs'.1, Heap.size_push]
    have pq := q H3 hE hT3
    have f3 : ∀ b ∈ fp, FpOk X pins H3 b ∧ b < h3.objs.size := fun b hb => ⟨⟨nfp b hb, (f2 b hb).2⟩, Nat.lt_of_lt_of_le (sz b hb) hsz⟩
    have st3 : tn 0 h3 := Tu.keep _ _ _ st2 fun b hb o e => hx b o (nPfp b hb) e
    generalize hgo : ({ cls := .type "generator", data := .fields #[.int s2.gens.size 0, .str "<genexpr>" (tk + 1), .str (X.env.qual ++ "<genexpr>") (tk + 1 + 1)] } : Obj) = go
    have keep5 : ∀ b o, h3.get? b = some o → (h'.push go).get? b = some o := fun b o e => Heap.get?_push_of_some _ (keep' b o e)
    have bare5 : AllBare (s2.gens.push (.fresh (.compStart (.GeneratorExp elt [⟨tg, iter, ifs, 0⟩] scope gpos) 0 (.ref it) .none (genEnv scope (cloFrom X.env.cells scope.names []) h3.objs.size code builtinsNs X.env)))) := AllBare.push I2.bare rfl
    refine hQ { s2 with heap := h3, toks := tk } H3 code it h'.objs.size fp tn J s2.gens.size go _ I3 f3 Tu (Tu.keep _ _ _ st3 fun b _ o e => ?_) pq rfl bare5 (fun A hA hF => ?_) (fun h e => ?_) (fun b hb z => ?_) (Array.getElem?_push_size ..)
    · exact keep5 b o e
    · have I5 := gen_start (A := A) (code := code) (h₁ := h'.push go) (g1 := s2.gens.push (.fresh (.compStart (.GeneratorExp elt [⟨tg, iter, ifs, 0⟩] scope gpos) 0 (.ref it) .none (genEnv scope (cloFrom X.env.cells scope.names []) h3.objs.size code builtinsNs X.env)))) (d1 := s2.drawn) (t1 := tk + 1 + 1 + 1) I3 S.blk S.cell hN f3 hA hF (hn'.push _) keep5 bare5
      have na : H3 h'.objs.size = none := I3.hok.fresh (by show h3.objs.size ≤ _; omega)
      refine I5.pins_of fun p hp => ?_
      rw [List.mem_singleton.mp hp]
      refine ⟨?_, na, ?_, fun z => ?_, fun v z => ?_⟩
      · exact Heap.get?_push_size _ (by rw [← hgo]; rfl)
      · show h'.objs.size ≠ h3.objs.size
        omega
      · obtain ⟨_, o, ho, _⟩ := I3.stack.mem z
        have := Heap.lt_size ho
        have this : h'.objs.size < h3.objs.size := this
        omega
      · rw [← hgo] at z
        cases z
    · rw [← hgo] at e
      exact ⟨_, _, _, e, rfl, rfl, rfl⟩
    · have h9 := (f3 b hb).2
      rw [← z] at h9
      have h9 : h'.objs.size < h3.objs.size := h9
      omega
  cases hf : codeAmong gpos ps.toList with
  | none =>
    refine wpAny_genexprCodeX hcode (cd.code hPs ht) (cd.tab hPs) hf fun c' h' tk hx hge hlt hco' hrec htab' _ => ?_
    obtain ⟨c2, oc, vs, t, e2, hoc, hd, hv⟩ := hrec
    cases e2
    have nC : H2 c' = none := I2.hok.fresh hge
    have I3 := inv_table (t' := tk) (q := X.env.qual ++ "<genexpr>") (more := #[rawInt gpos.line, rawInt gpos.col, .ref c']) (h' := h') I2 hP (fun b o hb e => hx b o hb e) htab'.2 hge ⟨oc, vs, t, hoc, hd, hv⟩
    have hE : ExtN H2 (upd (upd H2 P (.tbl (ps ++ #[rawInt gpos.line, rawInt gpos.col, .ref c']))) c' (CodeO c' (X.env.qual ++ "<genexpr>"))) := fun b o e n => by
      rw [upd_ne (ne_of_none e nC), upd_ne (fun z => n ps (Option.some.inj (e.symm.trans (by rw [z]; exact hP))))]
      exact e
    have eL : (ps ++ #[rawInt gpos.line, rawInt gpos.col, .ref c']).toList = ps.toList ++ [rawInt gpos.line, rawInt gpos.col, .ref c'] := by simp
    refine cont _ h' tk _ hx (Nat.le_trans hge (Nat.le_of_lt hlt)) I3 hE (fun p hp => ?_) fun b hb => ?_
    · by_cases hb : p.1 = P
      · rw [hu p hp hb, hb]
        refine ⟨_, by rw [upd_ne (ne_of_none hP nC), upd_same], by rw [eL]; exact PySem.TriplesOk_snoc _ _ _ _ ht, fun p' cv hcv => ?_⟩
        rw [eL] at hcv
        rcases among_app _ ht hcv with z | z
        · obtain ⟨c0, e1, e2⟩ := hA p' cv z
          exact ⟨c0, e1, hE _ _ e2 codeO_ne⟩
        · exact ⟨c', z, upd_same⟩
      · obtain ⟨ps', a1, a2, a3⟩ := hT p hp
        refine ⟨ps', by rw [upd_ne (ne_of_none a1 nC), upd_ne hb]; exact a1, a2, fun p' cv hcv => ?_⟩
        obtain ⟨c0, e1, e2⟩ := a3 p' cv hcv
        exact ⟨c0, e1, hE _ _ e2 codeO_ne⟩
    · rw [upd_ne (Nat.ne_of_lt (Nat.lt_of_lt_of_le (sz b hb) hge)), upd_ne (nPfp b hb)]
      exact (f2 b hb).1
  | some cv =>
    refine wpAny_genexprCode_hit hcode (cd.code hPs ht) hf ?_
    exact cont cv s2.heap s2.toks H2 (Heap.ExtBut.refl _ _) (Nat.le_refl _) I2 (ExtN.refl _) hT fun b hb => (f2 b hb).1
theorem pe_gx {T : List (Addr × Str)} {c P : Addr} {elt tg iter : Expr} {ifs : List Expr} {scope : Scope} {own : List (Str × Nat)} {gpos p pos : Pos} {wi : TI} {g : TG} {tt : TT} {te : TE} {b : Bool} {k : Nat}
    (hg : Gl X (gxName b)) (hmg : X.mg (gxName b) = none) (hN : X.N.Nodup) (hroom : Room (k + 1) X.A) (TB : LamX.TabB X.base X.mg c P) (hcode : X.env.code = .ref c) (S : GxS X scope own) (hm : (P, X.env.qual ++ "<genexpr>") ∈ T) (hu : ∀ p ∈ T, p.1 = P → p.2 = X.env.qual ++ "<genexpr>")
    (hi : PI X tg iter wi) (hs : ∀ v, genFold iter X.env v = pure v)
    (pg : ∀ (A : Around) (s : Shared) (H : Hp) (C : Addr) (code : Value) (fp : List Addr), PG (gCx X A s H (gEnv X scope C code) fp) tg g)
    (pt : ∀ (A : Around) (s : Shared) (H : Hp) (C : Addr) (code : Value) (fp : List Addr), Room k A → PTs (gCx X A s H (gEnv X scope C code) fp) ifs tt)
    (pe : ∀ (A : Around) (s : Shared) (H : Hp) (C : Addr) (code : Value) (fp : List Addr), Room k A → PE (gCx X A s H (gEnv X scope C code) fp) elt te)
    (he : starEach [.GeneratorExp elt [⟨tg, iter, ifs, 0⟩] scope gpos] X.env = (false, eval (.GeneratorExp elt [⟨tg, iter, ifs, 0⟩] scope gpos) X.env) :: starEach [] X.env := by rfl) :
    PE X (.Call (.Name (gxName b) p) [.GeneratorExp elt [⟨tg, iter, ifs, 0⟩] scope gpos] [] pos) (tGx T b wi g tt te (own.map (·.2))) := by
  refine ⟨fun pins s σ H Q I h => ?_⟩
  have hboot : bootBuiltins (gxName b) = some (.builtin (if b = true then "any" else "all")) := by cases b <;> decide +kernel
  refine wpAny_Call_Name_kw (ld_blt I hg hmg hboot ?_ (by cases b <;> decide +kernel) (by cases b <;> decide +kernel))
  refine PyProof.Rows.callWith_builtin1 ?_ he (by rfl)
  rw [he]
  show wpAny _ _ (spliced ((false, eval (.GeneratorExp elt [⟨tg, iter, ifs, 0⟩] scope gpos) X.env) :: backTo pos (starEach [] X.env))) _ _ s
  refine Calls.spliced_cons (gx_make (Pq := fun J H2 => ∃ W : Nat → Nat → Hp → Prop, (∃ m, W 0 m H2) ∧ Turns b J g tt te (wipe σ (own.map fun x : Str × Nat => x.2)) (own.map fun x : Str × Nat => x.2) Q W) hN hroom TB hcode S hm hu hi hs I h ?_)
  intro s4 H3 code it a fp tn J gn go s5 I4 hfp Tu st5 pq os5 bare5 mk hgo hafp hfr
  obtain ⟨W, ⟨m, w0⟩, turn⟩ := pq
  refine Calls.spliced_nil ?_
  -- the context at the turns
  generalize hge : gEnv X scope s4.heap.objs.size code = ge at *
  have hA2 : (X.A.in1.in1.over (loopC elt tg iter ifs scope gpos it ge) []).handled = none := hroom.hd
  have hF2 : (X.A.in1.in1.over (loopC elt tg iter ifs scope gpos it ge) []).frames = some (ge :: X.stack) := by
    have e : X.A.in1.in1.frames = some X.stack := I.ok.frames
    unfold Around.over
    show pushEnvs (loopC elt tg iter ifs scope gpos it ge).envs (pushEnvs (envsOf (([] : List Frame).map Frame.where_)) X.A.in1.in1.frames) = _
    rw [e]
    subst hge
    rfl
  have hR2 : Room k (X.A.in1.in1.over (loopC elt tg iter ifs scope gpos it ge) []) := ⟨hA2, by
    have := hroom.dp
    show X.A.depth + 1 + 3 * k + 5 < _
    omega, by
    have := hroom.un
    show X.A.units + 1 + 1 + 3 + 16 * k + 200 < _
    omega⟩
  generalize hAA : X.A.in1.in1.over (loopC elt tg iter ifs scope gpos it ge) [] = A2 at *
  have I5 := mk A2 hA2 (by rw [hF2])
  have pin5 := I5.pin (a, go) (List.mem_append_right _ (List.mem_singleton.mpr rfl))
  have hl : (wipe σ (own.map (·.2))).length = σ.length := wipe_length _ _
  have Pg := pg A2 s4 H3 s4.heap.objs.size code fp
  have Pt := pt A2 s4 H3 s4.heap.objs.size code fp hR2
  have Pe := pe A2 s4 H3 s4.heap.objs.size code fp hR2
  rw [hge] at Pg Pt Pe
  have go5 : ∀ s', s'.os = s5.os → AllBare s'.gens → (∀ x o, s5.heap.get? x = some o → s'.heap.get? x = some o) →
      Seg (model X.prog X.w) X.A.in1.in1 (fun n s₀ r s₁ => r = .ok .next ∧ EndR (gCx X A2 s4 H3 ge fp) a go b Q n s₀ s₁) (YieldY (gCx X A2 s4 H3 ge fp) a go gn b Q) (m + 1) s' (.compStart (.GeneratorExp elt [⟨tg, iter, ifs, 0⟩] scope gpos) 0 (.ref it) .none ge) ((model X.prog X.w).den (.compStart (.GeneratorExp elt [⟨tg, iter, ifs, 0⟩] scope gpos) 0 (.ref it) .none ge)) [] s' := fun s' ho hb hk =>
    seg_gxStart (X := gCx X A2 s4 H3 ge fp) (vs := own.map (·.2)) (by rw [← hAA]) rfl rfl rfl (by subst hge; exact S.co) hgo Tu (fun b hb => hb) hafp Pg Pt Pe (fun σ' h => ⟨by rw [← wipe_length σ' (own.map (·.2)), h], fun j v e => by
      rw [← h] at e
      exact (wipe_some e).1⟩) turn (Nat.lt_succ_self m) w0 (inv_more I5 ho hk hb) (Tu.keep _ _ _ st5 fun b _ o e => hk b o e) fun b hb => (hfp b hb).1.1
  have back : ∀ (k' : Bool) (σ' : L2.St) (H' : Hp) (s' : Shared), Inv (gCx X A2 s4 H3 ge fp) [(a, go)] σ' H' s' → Q (.bl k') H' → ∃ v H'', Inv X pins σ H'' s' ∧ RelV v (.bool k') ∧ Q v H'' := fun k' σ' H' s' I6 q6 =>
    ⟨.bl k', H', I4.call' (ch := fp) I6.os I6.base I6.hok I6.bare fun b hb => ⟨(hfp b hb).1.2.2.2.1, (hfp b hb).1.2.1, (hfp b hb).1.2.2.2.2.1, (hfp b hb).1.2.2.2.2.2⟩, rfl, q6⟩
  have hroomA : X.A.depth < recursionLimit := by have := hroom.dp; omega
  have run := consume (X := gCx X A2 s4 H3 ge fp) (a := a) (go := go) (gn := gn) (b := b) (Q := Q) (A := X.A) (R := fun r s' => match r with | .ok (.ret v) => ∃ x H'', Inv X pins σ H'' s' ∧ RelV x v ∧ Q x H'' | .ok _ => False | .error e => X.xe e s') hroom.hd hroomA (fun k' σ' H' s' I6 q6 => back k' σ' H' s' I6 q6) (m + 1) s5 (hgo _ pin5.1) I5.nolimit
    ⟨_, hfr, rfl, go5 (s5.setGen gn .running) rfl (allBare_setGen bare5 rfl) fun _ _ e => e⟩
  have giI : s5.heap.IsGen a gn := hgo _ pin5.1
  cases b with
  | false =>
    show wpAny _ _ (call (.builtin "all") [.ref a]) _ _ _
    refine call_function_tree F.kind_all F.plain_all F.entry_all (F.args_all1 _) ?_
    unfold Builtin.«all»
    refine wpAny_bind (m := oneArg "all" _) (wpAny_pure ?_)
    refine wpAny_bind (wpAny_pyIter_gen giI ?_)
    refine wpAny_pure ⟨plainId_quiet F.plain_all_loop _, codeAny_mono run fun r s' hq => ?_⟩
    cases r with
    | error e => exact hq
    | ok fl => cases fl <;> exact hq
  | true =>
    show wpAny _ _ (call (.builtin "any") [.ref a]) _ _ _
    refine call_function_tree F.kind_any F.plain_any F.entry_any (F.args_any1 _) ?_
    unfold Builtin.«any»
    refine wpAny_bind (m := oneArg "any" _) (wpAny_pure ?_)
    refine wpAny_bind (wpAny_pyIter_gen giI ?_)
    refine wpAny_pure ⟨plainId_quiet F.plain_any_loop _, codeAny_mono run fun r s' hq => ?_⟩
    cases r with
    | error e => exact hq
    | ok fl => cases fl <;> exact hq
end
end GX

namespace Mini
open PySem PySem.Spec PyProof.Rows L2
def rCountD (K : PySem.W.Frag) : V → List V → Hp → VK → Prop := fun x xs H Q => ∃ (a : Addr) (y : V) (d : PyData) (ds : List PyData), x = V.ref a ∧ xs = [y] ∧ Dp K H (V.ref a) (.list ds) ∧ Dp K H y d ∧
  SeqAt.shaped (.list ds) = true ∧ SeqAt.shaped d = true ∧ Q (.int (ds.countP fun z => PyData.eqv z d : Nat)) H
theorem mt_countD {X : Cx} (hu : X.A.units + 65 < cLine) : MtR X "list.count" (rCountD X.K) := by
  intro pins s σ H x xs v us Q I rx rxs h
  obtain ⟨a, y, d, ds, rfl, rfl, hl, hy, sl, sd, q⟩ := h
  cases rx
  cases rxs with
  | cons ry rt =>
    rename_i uy ut
    cases rt
    obtain ⟨bs, r1⟩ := Dp.reads I d y uy hy ry
    have hxs : PyData.canLayAll0 ds = true := SeqAt.canLay_of_shaped sl
    have hroom : X.A.units + 1 + min (PyData.depthAll ds) d.depth < cLine := room_in_shaped sd hu
    cases hl with
    | lst hs ha =>
      obtain ⟨its, rv, ⟨⟨cls, dd, data, sls⟩, n, ho, hc, hdn, hdt⟩, hlen⟩ := I.list hs
      simp only at hc hdt
      subst hc hdt
      obtain ⟨as, h4⟩ := Dp.readsAll I ds _ its ha rv
      have hmap : its.map (SeqAt.readOf s.heap) = ds := SeqAt.readsAll_map ds its as hxs h4
      have e : (its.toArray.toList.countP fun u => PyData.eqv (SeqAt.readOf s.heap u) d) = ds.countP fun z => PyData.eqv z d := by
        rw [← hmap, List.countP_map]
        rfl
      refine call_meets PySem.F.slot_list_count ⟨_, ho, rfl⟩ PySem.F.entry_list_count (PySem.F.args_list_count_2 _ _)
        (SeqAt.list_countAt a its.toArray n dd sls uy (fun u => PyData.eqv (SeqAt.readOf s.heap u) d)) ⟨ho, SeqAt.items_eqAt (vs := its.toArray) (show ReadsAll s.heap its.toArray.toList ds as from h4) r1 hxs (SeqAt.canLay_of_shaped sd) hroom, ?_⟩
      rw [e]
      exact ⟨.int _, H, I.tok _, ⟨_, rfl⟩, q⟩
end Mini

namespace SK
open PySem PySem.Spec PyProof.Rows L2 LamX PySem.W
structure KeyS (scope : Scope) (x : Str) : Prop where
  kind : scope.kind = .function
  co : scope.isCoroutine = false
  gen : scope.isGenerator = false
  names : ∀ y ∈ scope.names, y.2 = .local ∨ y.2 = .globalImplicit
  x : scope.names.lookup x = some .local
  len : scope.names.lookup ("len" : Str) = some .globalImplicit
def keySB (scope : Scope) (x : Str) : Bool :=
  decide (scope.kind = .function) && !scope.isCoroutine && !scope.isGenerator && scope.names.all (fun y => decide (y.2 = .local) || decide (y.2 = .globalImplicit)) && decide (scope.names.lookup x = some .local) && decide (scope.names.lookup ("len" : Str) = some .globalImplicit)
theorem keyS_by {scope : Scope} {x : Str} (h : keySB scope x = true) : KeyS scope x := by
  unfold keySB at h
  simp only [Bool.and_eq_true, Bool.or_eq_true, Bool.not_eq_true', decide_eq_true_eq, List.all_eq_true] at h
  obtain ⟨⟨⟨⟨⟨h1, h2⟩, h3⟩, h4⟩, h5⟩, h6⟩ := h
  exact ⟨h1, h2, h3, h4, h5, h6⟩
abbrev keyEnv (X : Cx) (scope : Scope) (L f c' : Addr) : Env := lamEnv X scope L f c'
def keyCx (X : Cx) (A : Around) (s : Shared) (H : Hp) (scope : Scope) (f c' : Addr) : Cx :=
  { lamCx X A X.stack s H (fun _ _ _ => False) scope f c' with N := [], xe := fun _ _ => False }
section
variable {X : Cx} {pins : List (Addr × Obj)} {σ : L2.St} {H : Hp} {s : Shared}
theorem key_start {A : Around} {scope : Scope} {x : Str} {f c' : Addr} {h₁ : Heap} {tk : Nat} {m : Str → Option Value} (I : Inv X pins σ H s) (L : KeyS scope x) (hd : A.handled = none) (hF : A.frames = some X.stack)
    (hns : h₁.Ns s.heap.objs.size m) (kp : ∀ b o, s.heap.get? b = some o → h₁.get? b = some o) :
    Inv (keyCx X A s H scope f c') [] [] H { s with heap := h₁, toks := tk } := by
  have e0 := I.env0
  have no : ∀ {y c}, (cloFrom X.env.cells scope.names []).lookup y = some c → False := fun {y c} e => by
    rcases cloFrom_mem (PySem.mem_of_lookup e) with hm | ⟨h1, h2⟩
    · cases hm
    · rcases L.names _ h1 with z | z <;> cases z
  have noA : ∀ b : Addr, b ∉ (keyCx X A s H scope f c').ex := fun b z => absurd (show b ∈ ([] : List Addr) from z) (by simp)
  refine ⟨⟨e0.mod, L.kind, rfl, rfl, Nat.le_refl _, fun y z c e1 e2 => (no e1).elim, fun y hy => ?_, fun y c z _ => ?_, fun _ => hd, Around.frames_deeper hF, .inr ⟨rfl, rfl⟩, fun b z => absurd z (noA b), e0.bs, e0.bsz, fun b _ _ => noA b,
      fun b z => absurd z (noA b), e0.funs, e0.frf⟩,
    rfl, e0.bare, Un.kept kp, ⟨_, hns, fun i y v e1 e2 e3 => ?_⟩, fun y c e => (no e).elim, e0.hok.fresh (Nat.le_refl _), fun y c e => (no e).elim, fun q hq => absurd (show q ∈ ([] : List (Addr × Obj)) ++ [] from hq) (by simp), e0.hok.kept kp, rfl⟩
  · have hy : scope.names.lookup y = some .cell ∨ scope.names.lookup y = some .free := hy
    rcases hy with hy | hy
    · rcases L.names _ (PySem.mem_of_lookup hy) with z | z <;> cases z
    · rcases L.names _ (PySem.mem_of_lookup hy) with z | z <;> cases z
  · have z : false = true := z
    cases z
  · have e1 : ([] : List Str)[i]? = some y := e1
    simp at e1
theorem key_call {A : Around} {scope : Scope} {x : Str} {f c' t : Addr} {params : Arguments} {pm ctv : Value} {p1 p2 p3 p4 p5 : Pos} {cx : Nat} {its : Array Value} {d : PyData} (I : Inv X pins σ H s) (L : KeyS scope x) (hd : A.handled = none) (hF : A.frames = some X.stack)
    (hdp : A.depth < recursionLimit)
    (hf : s.heap.get? f = some (kla_obj "<lambda>" (X.env.qual ++ "<lambda>") params (.Tuple [.Call (.Name ("len" : Str) p1) [.Name x p2] [] p3, .Name x p4] cx p5) scope (cloFrom X.env.cells scope.names []) pm c' ctv))
    (hc : H c' = some (CodeO c' (X.env.qual ++ "<lambda>")))
    (hbind : ∀ v, bindArgs (kla_fn "<lambda>" (X.env.qual ++ "<lambda>") params (.Tuple [.Call (.Name ("len" : Str) p1) [.Name x p2] [] p3, .Name x p4] cx p5) scope (cloFrom X.env.cells scope.names []) pm (.ref c') ctv) ⟨[v], []⟩ = pure [(x, v)])
    (hm : X.mg "len" = none) (hx : (x == ("__debug__" : Str)) = false) (ht : IsTup s.heap t its) (hz : its.size < 2 ^ 60) (hr : Reads s.heap (.ref t) d []) :
    wpAny (model X.prog X.w) A (call (.ref f) [.ref t]) (KeyPure (.tuple [.int its.size, d]) s) (fun _ _ => False) s := by
  obtain ⟨⟨oc, vs, tq, hoc, hdc, hvc⟩, _, _⟩ := I.hok c' _ hc
  have rc : codeAny (model X.prog X.w) A (.call (.ref f) ⟨[.ref t], []⟩) (fun r s' => match r with
      | .ok (.ret v) => KeyPure (.tuple [.int its.size, d]) s v s'
      | _ => False) s := by
    refine kla_callFunE hdp hf rfl L.co L.gen rfl ⟨c', oc, vs, tq, rfl, hoc, hdc, hvc⟩ ?_
    rw [hbind]
    refine wpAny_pure (wpAny_newFunctionEnv (fun y hy => by rcases L.names y hy with z | z <;> rw [z] <;> simp) (fun y hy => by
      rw [List.mem_singleton.mp hy]; exact L.x) (fun h₁ hns hsb => ⟨I.nolimit.fresh _ hsb, ?_⟩) L.kind)
    show codeAny _ _ (.expr _ (keyEnv X scope s.heap.objs.size f c')) _ _
    have kp : ∀ b o, s.heap.get? b = some o → h₁.get? b = some o := fun b o e => hsb.extBut b o (Nat.ne_of_lt (Heap.lt_size e)) (Heap.get?_push_of_some _ e)
    have J : Inv (keyCx X A s H scope f c') [] [] H { s with heap := h₁, toks := s.toks + ([(x, Value.ref t)] : List (Str × Value)).length } := key_start I L hd hF hns kp
    have hm1 : (fun y => ([(x, Value.ref t)] : List (Str × Value)).reverse.lookup y) x = some (Value.ref t) := by
      show ([(x, Value.ref t)] : List (Str × Value)).lookup x = some (Value.ref t)
      simp [List.lookup]
    have lx : ∀ {p : Pos} {s' : Shared} {Q : Value → Shared → Prop} {E : Value → Shared → Prop} {A' : Around}, s'.heap.Ns s.heap.objs.size (fun y => ([(x, Value.ref t)] : List (Str × Value)).reverse.lookup y) → Q (.ref t) s' → wpAny (model X.prog X.w) A' (eval (.Name x p) (keyEnv X scope s.heap.objs.size f c')) Q E s' := fun hn' hq =>
      wpAny_Name (wpAny_loadName_local L.kind L.x hn' hm1 hq) hx
    have ht1 : IsTup h₁ t its := by
      obtain ⟨o, ho, r⟩ := ht
      exact ⟨o, kp _ _ ho, r⟩
    refine kla_codeExpr (wpAny_Tuple_spliced ?_)
    show wpAny _ _ (spliced [(false, eval (.Call (.Name ("len" : Str) p1) [.Name x p2] [] p3) (keyEnv X scope s.heap.objs.size f c')), (false, eval (.Name x p4) (keyEnv X scope s.heap.objs.size f c'))]) _ _ _
    refine Calls.spliced_cons (wpAny_Call_Name_kw (ld_blt (X := keyCx X A s H scope f c') J L.len hm (by decide +kernel : bootBuiltins ("len" : Str) = some (.builtin "len")) ?_ (by decide) (by decide)))
    refine PyProof.Rows.callWith_builtin1 ?_ (by rfl) (by rfl)
    show wpAny _ _ (spliced [(false, eval (.Name x p2) (keyEnv X scope s.heap.objs.size f c'))]) _ _ _
    refine Calls.spliced_cons (lx hns (Calls.spliced_nil ?_))
    refine PyProof.Rows.len_tuple ht1 (by omega) ?_
    refine Calls.spliced_cons (lx hns (Calls.spliced_nil ⟨by simp [sizeLine_eq], ?_⟩))
    refine ⟨_, _, rfl, fun b o e => Heap.get?_push_of_some _ (kp b o e), ?_⟩
    exact .tuple (as := []) (Heap.get?_push_size _ rfl) rfl rfl (.cons (as := []) (bs := []) (.int _ _) (.cons (as := []) (bs := []) (PyProof.Rows.Reads.keeps (fun b o e => Heap.get?_push_of_some _ (kp b o e)) hr) .nil))
  refine wpAny_call (codeAny_mono rc fun r s' hq => ?_)
  cases r with
  | error e => exact hq.elim
  | ok fl =>
    cases fl with
    | ret u => exact hq
    | next => exact hq.elim
    | brk => exact hq.elim
    | cont => exact hq.elim
end
open Mini (ltI leI)
def encP (k : Bool) (r : List Int) : PyData := if k then .tuple [.int r.length, Mini.rowP r] else Mini.rowP r
def srtV (k : Bool) (us : List V) (rows : List (List Int)) : List V := ((us.zip rows).mergeSort fun p q => leI k p.2 q.2).map (·.1)
theorem rows_eqv (r s : List Int) : PyData.eqv (Mini.rowP r) (Mini.rowP s) = decide (r = s) := by
  have h : ∀ a b : List Int, PyData.eqvAll (a.map .int) (b.map .int) = decide (a = b) := fun a => by
    induction a with
    | nil => intro b; cases b <;> simp [PyData.eqvAll]
    | cons x a ih =>
      intro b
      cases b with
      | nil => simp [PyData.eqvAll]
      | cons y b =>
        rw [List.map_cons, List.map_cons, PyData.eqvAll, ih b]
        have : PyData.eqv (.int x) (.int y) = decide (x = y) := by rw [Bool.eq_iff_iff]; simp [PyData.eqv]
        rw [this]
        by_cases h1 : x = y <;> by_cases h2 : a = b <;> simp [h1, h2]
  unfold Mini.rowP
  rw [PyData.eqv]
  exact h r s
theorem alike_rows (r s : List Int) : alike (Mini.rowP r) (Mini.rowP s) = true := (Mini.rows_alike [r, s]).1 _ (List.mem_map.mpr ⟨r, by simp, rfl⟩) _ (List.mem_map.mpr ⟨s, by simp, rfl⟩)
theorem alike_enc (k : Bool) (r s : List Int) : alike (encP k r) (encP k s) = true := by
  cases k with
  | false => exact alike_rows r s
  | true =>
    show alike (.tuple [.int r.length, Mini.rowP r]) (.tuple [.int s.length, Mini.rowP s]) = true
    rw [alike, alikeAll, alikeAll, alikeAll, alike_rows]
    simp [alike]
theorem lt_enc (k : Bool) (r s : List Int) : dataLt (encP k r) (encP k s) = ltI k r s := by
  cases k with
  | false => exact Mini.dataLt_rows r s
  | true =>
    show dataLt (.tuple [.int r.length, Mini.rowP r]) (.tuple [.int s.length, Mini.rowP s]) = decide (r.length < s.length ∨ (r.length = s.length ∧ r < s))
    rw [dataLt_pair (by simp [alike]) (alike_rows r s), dataLt_int, Mini.dataLt_rows, rows_eqv]
    have e : PyData.eqv (.int r.length) (.int s.length) = decide ((r.length : Int) = s.length) := by rw [Bool.eq_iff_iff]; simp [PyData.eqv]
    rw [e]
    by_cases h1 : r.length = s.length
    · rw [if_pos (by rw [h1]; simp)]
      by_cases h2 : r = s
      · subst h2
        have hn : ¬ r < r := List.lt_irrefl r
        rw [if_pos (by simp)]
        simp [hn]
      · rw [if_neg (by simpa using h2)]
        simp [h1]
    · rw [if_neg (by simp; omega)]
      by_cases h2 : r.length < s.length
      · rw [decide_eq_true (by omega), decide_eq_true (.inl h2)]
      · rw [decide_eq_false (by omega), decide_eq_false (by omega)]
theorem le_enc (k : Bool) : (dataLe false fun z : V × List Int => encP k z.2) = fun p q => leI k p.2 q.2 := by
  funext p q
  unfold leI
  rw [← lt_enc]
  rfl
theorem ints_reads {h : Heap} : ∀ {vs : List Value} {r : List Int} {as : List Addr}, ReadsAll h vs (r.map .int) as → as = [] ∧ vs.length = r.length
  | _, [], _, h => by
    have h' : ReadsAll _ _ [] _ := h
    cases h'
    exact ⟨rfl, rfl⟩
  | _, x :: r, _, h => by
    have h' : ReadsAll _ _ (.int x :: r.map .int) _ := h
    cases h' with
    | cons h1 h2 =>
      cases h1
      obtain ⟨e, l⟩ := ints_reads h2
      exact ⟨by rw [e]; rfl, by simp [l]⟩
def RowV (h : Heap) (v : Value) (r : List Int) : Prop := ∃ (t : Addr) (its : Array Value), v = .ref t ∧ IsTup h t its ∧ its.size = r.length ∧ Reads h v (Mini.rowP r) []
theorem row_of {h : Heap} {v : Value} {r : List Int} {as : List Addr} (hr : Reads h v (Mini.rowP r) as) : RowV h v r := by
  unfold Mini.rowP at hr
  cases hr with
  | tuple h1 h2 h3 h4 =>
    obtain ⟨e, l⟩ := ints_reads h4
    subst e
    exact ⟨_, _, rfl, ⟨_, h1, h2, _, h3⟩, by simpa using l, .tuple h1 h2 h3 h4⟩
theorem RowV.keeps {h h' : Heap} {v : Value} {r : List Int} (k : ∀ b o, h.get? b = some o → h'.get? b = some o) (x : RowV h v r) : RowV h' v r := by
  obtain ⟨t, its, e, ⟨o, ho, q⟩, l, hr⟩ := x
  exact ⟨t, its, e, ⟨o, k _ _ ho, q⟩, l, PyProof.Rows.Reads.keeps k hr⟩
theorem each_zip {h : Heap} : ∀ {us : List V} {its : List Value} {rows : List (List Int)} {as : List Addr}, Vals us its → ReadsAll h its (rows.map Mini.rowP) as → EachIs (fun v (p : V × List Int) => RelV p.1 v ∧ RowV h v p.2) its (us.zip rows) ∧ us.length = rows.length
  | _, _, [], _, r, h => by
    have h' : ReadsAll _ _ [] _ := h
    cases h'
    cases r
    exact ⟨.nil, rfl⟩
  | _, _, x :: rows, _, r, h => by
    have h' : ReadsAll _ _ (Mini.rowP x :: rows.map Mini.rowP) _ := h
    cases h' with
    | cons h1 h2 =>
      cases r with
      | cons r1 r2 =>
        obtain ⟨e, l⟩ := each_zip r2 h2
        exact ⟨.cons ⟨r1, row_of h1⟩ e, by simp [l]⟩
theorem vals_each {h : Heap} : ∀ {out : List Value} {bs : List (V × List Int)}, EachIs (fun v (p : V × List Int) => RelV p.1 v ∧ RowV h v p.2) out bs → Vals (bs.map (·.1)) out
  | _, _, .nil => .nil
  | _, _, .cons ⟨h1, _⟩ t => .cons h1 (vals_each t)
theorem depth_enc (k : Bool) (r : List Int) : (encP k r).depth ≤ 2 := by
  have hd : (Mini.rowP r).depth = 1 := by unfold Mini.rowP; rw [PyData.depth, Mini.depth_ints]
  cases k with
  | false => show (Mini.rowP r).depth ≤ 2; omega
  | true =>
    show (PyData.tuple [.int r.length, Mini.rowP r]).depth ≤ 2
    simp [PyData.depth, PyData.depthAll, hd]
theorem collect_tup {prog : Program} {w : World} {A : Around} {E : Value → Shared → Prop} {s : Shared} {l : Addr} {vs : List Value} {Q : List Value → Shared → Prop} (hl : IsTup s.heap l vs.toArray)
    (h : Q vs { s with heap := (s.heap.push (seqObj "list" #[] 0)).update s.heap.objs.size (Obj.mapSeq (· ++ vs.toArray)) }) (hsz : vs.length ≤ sizeLine) : wpAny (model prog w) A (collect (.ref l)) Q E s := by
  obtain ⟨o, ho, hc, n, hd⟩ := id hl
  unfold collect
  refine wpAny_bind (wpAny_runValue (codeAny_builtin entry_proto_collect' ?_))
  show wpAny _ _ (do again (.builtin "list.__iadd__" ⟨[← newList [], .ref l], []⟩)) _ _ s
  refine wpAny_bind (wpAny_newList (wpAny_pure ⟨Code.quiet_builtin _ (by decide +kernel), codeAny_builtin entry_list_iadd' ?_⟩))
  show wpAny _ _ (Builtin.List.listExtendWith (.ref s.heap.objs.size) (.ref l) (.ref s.heap.objs.size)) _ _ { s with heap := s.heap.push (seqObj "list" #[] 0) }
  unfold Builtin.List.listExtendWith
  have ho' : (s.heap.push (seqObj "list" #[] 0)).get? l = some o := Heap.get?_push_of_some _ ho
  refine wpAny_bind (wpAny_typeOf (T := "tuple") ⟨o, ho', hc⟩ ?_)
  have ht : (Value.type "tuple" == Value.type "tuple") = true := by rfl
  rw [if_pos (by rw [ht]; simp)]
  refine wpAny_bind (listItems_at ho' hd ?_)
  refine wpAny_bind (listItems_at (xs := #[]) (n := 0) (Heap.get?_push_size _ rfl) rfl ?_)
  rw [if_neg (by simp)]
  refine wpAny_bind (listUpdate_at (xs := #[]) (n := 0) (Heap.get?_push_size _ rfl) rfl ?_ (Nat.zero_le _) (by show (#[] ++ vs.toArray).size ≤ sizeLine + 1; simp only [Array.size_append, List.size_toArray, List.length_nil]; omega))
  refine wpAny_pure ?_
  show wpAny (model prog w) A (do
      let o ← load s.heap.objs.size
      match o.data with
      | .seq xs _ => pure xs.toList
      | _ => unsupported "internal:collect") Q E { s with heap := (s.heap.push (seqObj "list" #[] 0)).update s.heap.objs.size (Obj.mapSeq (· ++ vs.toArray)) }
  refine wpAny_bind (wpAny_load (get?_update_seq (Heap.get?_push_size _ rfl) _) ?_)
  show wpAny _ _ (pure ((#[] : Array Value) ++ vs.toArray).toList) Q E _
  rw [show ((#[] : Array Value) ++ vs.toArray).toList = vs by simp]
  exact wpAny_pure h
def SeqIs (h : Heap) (l : Addr) (vs : List Value) : Prop := h.IsList l vs.toArray ∨ IsTup h l vs.toArray
section
variable {prog : Program} {w : World} {A : Around} {E : Value → Shared → Prop} {s : Shared} {κ : PyProof.Rows.KeyKind}
theorem sorted_vals2 {l : Addr} {vs : List Value} {Q : Value → Shared → Prop} (hl : SeqIs s.heap l vs) (S : SortsAt prog w A.in1.in1 { s with heap := sortingHeap (copyHeap s.heap vs) (s.heap.objs.size + 1) vs } κ vs) (hL : vs.length ≤ sizeLine)
    (h : Q (.ref (s.heap.objs.size + 1)) { s with heap := sortedAll s.heap vs (sortVals κ false vs vs).toArray }) : wpAny (model prog w) A (call (.builtin "sorted") [.ref l]) Q E s := by
  refine call_function_entry_kw kind_sorted plain_sorted entry_sorted (args_sorted1 _) ?_
  unfold Builtin.«sorted»
  refine wpAny_bind (m := checkCount "sorted" 1 1 _) (wpAny_pure ?_)
  refine wpAny_bind (hl.elim (fun hl => collect_list hl ?_ hL) fun hl => collect_tup hl ?_ hL) <;>
  · refine wpAny_bind (wpAny_newList ?_ hL)
    have hsz : ((s.heap.push (seqObj "list" #[] 0)).update s.heap.objs.size (Obj.mapSeq (· ++ vs.toArray))).objs.size = s.heap.objs.size + 1 := by
      rw [Heap.size_update, size_push']
    show wpAny _ _ _ _ _ { s with heap := copyHeap s.heap vs }
    rw [hsz]
    refine wpAny_bind (wpAny_holding (wpAny_call_entry_kw slot_list_sort ⟨_, copyHeap_at s.heap vs, rfl⟩ entry_list_sort ?body (args_list_sort _)))
    case body =>
      show wpAny (model prog w) A.in1.in1 (Builtin.«list.sort» ⟨[.ref (s.heap.objs.size + 1)], []⟩) _ _ _
      exact list_sort_vals (s := { s with heap := copyHeap s.heap vs }) (copyHeap_at s.heap vs) S hL ⟨_, rfl, wpAny_pure ⟨_, rfl, h⟩⟩
theorem sortsAt_short {vs : List Value} {ds : List PyData} (e : EachIs (fun v d => ∃ as, Reads s.heap v d as) vs ds) (hal : AllAlike ds) (h1 : ds.length < 2) (ht : ∀ d, d ∈ ds → ∃ xs, d = .tuple xs) (hu : ∀ d, d ∈ ds → A.units + d.depth < cLine) : SortsAt prog w A s (dataKind s.heap ds) vs := by
  have room : ∀ {d d' : PyData}, d ∈ ds → A.units + min d.depth d'.depth < cLine := fun {d d'} hd => Nat.lt_of_le_of_lt (Nat.add_le_add_left (Nat.min_le_left _ _) _) (hu d hd)
  refine ⟨fun v hv => ?_, tuples' false, ?_, fun h2 => ?_⟩
  · obtain ⟨d, hd, as, r⟩ := e.left v hv
    exact ⟨_, dataKind_some hal hd r⟩
  · intro E x y a b Q ha hb hq
    obtain ⟨d, as, hd, ra, rfl⟩ := dataKind_inv ha
    obtain ⟨d', as', hd', rb, rfl⟩ := dataKind_inv hb
    have hdd := hal d hd d' hd'
    have hroom := room (d' := d') hd
    obtain ⟨xs1, rfl⟩ := ht d hd
    obtain ⟨xs2, rfl⟩ := ht d' hd'
    have hq' : Q (dataLt (.tuple xs1) (.tuple xs2)) s := hq
    rw [dataLt_tuple] at hq'
    cases ra with
    | @tuple l o xs n _ _ h1 h2 h3 h4 =>
      cases rb with
      | @tuple l' o' xs' n' _ _ k1 k2 k3 k4 =>
        have n1 : xs.size = xs1.length := by simpa using SeqAt.ReadsAll.length _ _ _ h4
        have n2 : xs'.size = xs2.length := by simpa using SeqAt.ReadsAll.length _ _ _ k4
        exact kat_lt h1 h3 k1 k3 (katLex_alike xs1 xs2 0 _ _ _ _ h4 k4 (by simpa [alike] using hdd) (by have q := SeqAt.room_in hroom; omega) (fun hb => by cases hb) (by rw [n1, n2]) hq')
  · have := e.length
    omega
theorem sorted_data2 {β : Type} {R : Value → β → Prop} {enc : β → PyData} {vs : List Value} {bs : List β} {l : Addr} {Q : Value → Shared → Prop} (hl : SeqIs s.heap l vs) (e : EachIs R vs bs) (er : EachIs (fun v b => ∃ as, Reads s.heap v (enc b) as) vs bs) (hal : AllAlike (bs.map enc))
    (hk : Sortable (bs.map enc) ∨ (bs.length < 2 ∧ ∀ d, d ∈ bs.map enc → ∃ xs, d = .tuple xs)) (hL : bs.length ≤ sizeLine)
    (hu : ∀ b, b ∈ bs → A.units + 2 + (enc b).depth < cLine) (h : ∀ out, out.length = bs.length → EachIs R out (bs.mergeSort (dataLe false enc)) → Q (.ref (s.heap.objs.size + 1)) { s with heap := sortedAll s.heap vs (List.toArray out) }) :
    wpAny (model prog w) A (call (.builtin "sorted") [.ref l]) Q E s := by
  have er' : EachIs (fun v b => ∃ as, Reads (sortingHeap (copyHeap s.heap vs) (s.heap.objs.size + 1) vs) v (enc b) as) vs bs := er.mono fun _ _ ⟨as, r⟩ => ⟨as, PyProof.Rows.Reads.keeps (fun _ _ => sorting_copy_old) r⟩
  have em := each_map (R := fun v d => ∃ as, Reads (sortingHeap (copyHeap s.heap vs) (s.heap.objs.size + 1) vs) v d as) enc er'
  refine sorted_vals2 hl (hk.elim (fun hk => SortsAt.data (s := { s with heap := sortingHeap (copyHeap s.heap vs) (s.heap.objs.size + 1) vs }) em hal hk (bound_map hu)) fun hk => sortsAt_short (s := { s with heap := sortingHeap (copyHeap s.heap vs) (s.heap.objs.size + 1) vs }) em hal (by rw [List.length_map]; exact hk.1) hk.2 (bound_map hu)) (by rw [e.length]; exact hL)
    (h _ (by rw [sortVals_length false rfl]; exact e.length) (sortVals_data false e er' hal))
end
section
variable {X : Cx} {pins : List (Addr × Obj)} {σ : L2.St} {H : Hp} {s : Shared} {a : Addr} {us : List V} {rows : List (List Int)} {Q : VK}
theorem srt_plain (I : Inv X pins σ H s) (hu : X.A.units + 65 < cLine) (hs : SqL X.K H a us ∨ SqT X.K H a us) (hd : DpAll X.K H us (rows.map Mini.rowP)) (ne : (∀ r ∈ rows, r ≠ []) ∨ rows.length < 2) (q : ∀ p, H p = none → Q (.ref p) (upd H p (.lst (srtV false us rows)))) :
    wpAny (model X.prog X.w) X.A (call (.builtin "sorted") [.ref a]) (EP X pins σ Q) X.xe s := by
  obtain ⟨its, rv, hl, hz⟩ : ∃ its : List Value, Vals us its ∧ SeqIs s.heap a its ∧ us.length ≤ sizeLine := by
    rcases hs with hs | hs
    · obtain ⟨its, rv, hl, hz⟩ := I.list hs
      exact ⟨its, rv, .inl hl.isList, hz⟩
    · obtain ⟨its, rv, hl, hz⟩ := I.tuple hs
      exact ⟨its, rv, .inr hl, hz⟩
  obtain ⟨as, ra⟩ := Dp.readsAll I (rows.map Mini.rowP) us its hd rv
  obtain ⟨e, hlen⟩ := each_zip rv ra
  have hbs : (us.zip rows).length = us.length := by simp [hlen]
  refine sorted_data2 (R := fun v (p : V × List Int) => RelV p.1 v ∧ RowV s.heap v p.2) (enc := fun p : V × List Int => encP false p.2) (bs := us.zip rows) hl e (e.mono fun v p h => by
    obtain ⟨_, t, i2, _, _, _, hr⟩ := h
    exact ⟨[], hr⟩) (AllAlike.of fun b b' => alike_enc false _ _) (ne.elim (fun ne => .inl (.inl fun d hd => ?_)) fun ne => .inr ⟨by rw [hbs, hlen]; exact ne, fun d hd => ?_⟩) (by rw [hbs]; exact hz) (fun b _ => ?_) fun out ho eo => ?_
  · obtain ⟨b, hb, rfl⟩ := List.mem_map.mp hd
    have := ne b.2 (List.of_mem_zip hb).2
    obtain ⟨x, r, er⟩ := List.exists_cons_of_ne_nil this
    exact ⟨.int x, r.map .int, by show Mini.rowP b.2 = _; rw [er]; rfl⟩
  · obtain ⟨b, hb, rfl⟩ := List.mem_map.mp hd
    exact ⟨_, rfl⟩
  · have := depth_enc false b.2
    omega
  · rw [le_enc] at eo
    have hv := vals_each eo
    obtain ⟨ep, he'⟩ := PyProof.Rows.sortedAll_at s.heap its out.toArray
    have hl2 : (srtV false us rows).length ≤ sizeLine := by
      unfold srtV
      rw [List.length_map, List.length_mergeSort, hbs]
      exact hz
    exact ⟨.ref _, upd H (s.heap.objs.size + 1) (.lst (srtV false us rows)), I.laid (t' := s.toks) (fun _ _ => PyProof.Rows.sortedAll_old) (Nat.le_succ _) ⟨hl2, out, ep, hv, he'⟩, rfl, q _ (I.hok.fresh (Nat.le_succ _))⟩
theorem srt_key {scope : Scope} {x : Str} {f c' : Addr} {params : Arguments} {pm ctv : Value} {p1 p2 p3 p4 p5 : Pos} {cx : Nat} {k : Nat} (I : Inv X pins σ H s) (L : KeyS scope x) (hroom : Room k X.A)
    (hf : s.heap.get? f = some (kla_obj "<lambda>" (X.env.qual ++ "<lambda>") params (.Tuple [.Call (.Name ("len" : Str) p1) [.Name x p2] [] p3, .Name x p4] cx p5) scope (cloFrom X.env.cells scope.names []) pm c' ctv))
    (hc : H c' = some (CodeO c' (X.env.qual ++ "<lambda>")))
    (hbind : ∀ v, bindArgs (kla_fn "<lambda>" (X.env.qual ++ "<lambda>") params (.Tuple [.Call (.Name ("len" : Str) p1) [.Name x p2] [] p3, .Name x p4] cx p5) scope (cloFrom X.env.cells scope.names []) pm (.ref c') ctv) ⟨[v], []⟩ = pure [(x, v)])
    (hm : X.mg "len" = none) (hx : (x == ("__debug__" : Str)) = false)
    (hs : SqL X.K H a us) (hd : DpAll X.K H us (rows.map Mini.rowP)) (hsm : ∀ r ∈ rows, r.length < 2 ^ 60) (q : ∀ p, H p = none → Q (.ref p) (upd H p (.lst (srtV true us rows)))) :
    wpAny (model X.prog X.w) X.A (call (.builtin "sorted") [.ref a] [(Str.ofString "key", .ref f)]) (EP X pins σ Q) X.xe s := by
  obtain ⟨its, rv, hl, hz⟩ := I.list hs
  obtain ⟨as, ra⟩ := Dp.readsAll I (rows.map Mini.rowP) us its hd rv
  obtain ⟨e, hlen⟩ := each_zip rv ra
  have hbs : (us.zip rows).length = us.length := by simp [hlen]
  refine sorted_key_data (b := false) (R := fun v (p : V × List Int) => RelV p.1 v ∧ RowV s.heap v p.2) (bs := us.zip rows) (fun p : V × List Int => encP true p.2) hl.isList e (AllAlike.of fun b b' => alike_enc true _ _) (Sortable.tuples fun b => ⟨_, _, rfl⟩) (by rw [hbs]; exact hz) (fun b _ => ?_)
    (ksk_s1 _ _) (fun _ => ksk_l1 _ _) (fun _ => ksk_t1 _ _) (fun v b hR hb h tk kp => ?_) fun out c h' tk kp _ hD ho eo => ?_
  · have := depth_enc true b.2
    have := hroom.un
    omega
  · obtain ⟨_, hrow⟩ := hR
    obtain ⟨t, i2, rfl, ht, hsz, hr⟩ := hrow.keeps kp
    have I2 : Inv X pins σ H { s with heap := h, toks := tk } := I.kept kp
    have K := key_call (A := X.A.in1.in1) I2 L hroom.hd I.ok.frames (by
      have := hroom.dp
      show X.A.depth < recursionLimit
      omega) (kp _ _ hf) hc hbind hm hx ht (by rw [hsz]; exact hsm b.2 (List.of_mem_zip hb).2) hr
    have ek : encP true b.2 = .tuple [.int i2.size, Mini.rowP b.2] := by
      show PyData.tuple [.int b.2.length, Mini.rowP b.2] = _
      rw [hsz]
    show wpAny _ _ _ (KeyPure (encP true b.2) _) _ _
    rw [ek]
    exact K
  · rw [le_enc] at eo
    have hv := vals_each eo
    have hl2 : (srtV true us rows).length ≤ sizeLine := by
      unfold srtV
      rw [List.length_map, List.length_mergeSort, hbs]
      exact hz
    exact ⟨.ref _, upd H (s.heap.objs.size + 1) (.lst (srtV true us rows)), I.laid (t' := tk) kp (Nat.le_succ _) ⟨hl2, out, c, hv, hD⟩, rfl, q _ (I.hok.fresh (Nat.le_succ _))⟩
end
def tSrt (K : PySem.W.Frag) (T : List (Addr × Str)) (k : Bool) (te : TE) : TE := fun σ H Q => te σ H fun x H1 => ∃ (a : Addr) (us : List V) (rows : List (List Int)), x = .ref a ∧ ((∀ r ∈ rows, r ≠ []) ∨ (k = false ∧ rows.length < 2)) ∧ (∀ r ∈ rows, r.length < 2 ^ 60) ∧ Tabs T H1 ∧
  ∀ H2, ExtN H1 H2 → Tabs T H2 → (SqL K H2 a us ∨ (k = false ∧ SqT K H2 a us)) ∧ DpAll K H2 us (rows.map Mini.rowP) ∧ ∀ p, H2 p = none → Q (.ref p) (upd H2 p (.lst (srtV k us rows)))
section
variable {X : Cx} {e : Expr} {te : TE} {p pos : Pos} {T : List (Addr × Str)}
theorem pe_srt (hu : X.A.units + 65 < cLine) (hg : Gl X "sorted") (hm : X.mg "sorted" = none) (he : PE X e te) (hs : starEach [e] X.env = [(false, eval e X.env)]) : PE X (.Call (.Name ("sorted" : Str) p) [e] [] pos) (tSrt X.K T false te) := by
  refine ⟨fun pins s σ H Q I h => ?_⟩
  refine wpAny_Call_Name_kw (ld_blt I hg hm (by decide +kernel : bootBuiltins ("sorted" : Str) = some (.builtin "sorted")) ?_ (by decide) (by decide))
  refine PyProof.Rows.callWith_builtin1 ?_ hs (by rfl)
  rw [hs]
  show wpAny _ _ (spliced [(false, eval e X.env)]) _ _ s
  refine Calls.spliced_cons (thn (he.run pins s σ H _ I h) fun u s1 ⟨x, H1, I1, r1, a, us, rows, ex, ne, _, hT, q⟩ => Calls.spliced_nil ?_)
  subst ex
  obtain rfl : u = Value.ref a := r1
  obtain ⟨hq, hd, q⟩ := q H1 (ExtN.refl H1) hT
  exact srt_plain I1 hu (hq.imp_right (·.2)) hd (ne.imp_right (·.2)) q
theorem pe_srtk {c P : Addr} {x : Str} {params : Arguments} {scope : Scope} {p1 p2 p3 p4 p5 lpos kpos : Pos} {cx : Nat} {k : Nat} (hroom : Room k X.A) (hg : Gl X "sorted") (hm : X.mg "sorted" = none) (hml : X.mg "len" = none) (he : PE X e te) (hs : starEach [e] X.env = [(false, eval e X.env)])
    (TB : LamX.TabB X.base X.mg c P) (hcode : X.env.code = .ref c) (hmT : (P, X.env.qual ++ "<lambda>") ∈ T) (hu : ∀ p ∈ T, p.1 = P → p.2 = X.env.qual ++ "<lambda>") (hdef : defaultsOf params X.env = ([], [])) (L : KeyS scope x) (hx : (x == ("__debug__" : Str)) = false)
    (hbind : ∀ (q : Str) (cl : List (Str × Addr)) (pm cdv ctv v : Value), bindArgs (kla_fn "<lambda>" q params (.Tuple [.Call (.Name ("len" : Str) p1) [.Name x p2] [] p3, .Name x p4] cx p5) scope cl pm cdv ctv) ⟨[v], []⟩ = pure [(x, v)]) :
    PE X (.Call (.Name ("sorted" : Str) p) [e] [⟨some "key", .Lambda params (.Tuple [.Call (.Name ("len" : Str) p1) [.Name x p2] [] p3, .Name x p4] cx p5) scope lpos, kpos⟩] pos) (tSrt X.K T true te) := by
  refine ⟨fun pins s σ H Q I h => ?_⟩
  refine wpAny_Call_Name_kw (ld_blt I hg hm (by decide +kernel : bootBuiltins ("sorted" : Str) = some (.builtin "sorted")) ?_ (by decide) (by decide))
  refine PyProof.Rows.callWith_kw ?_ (by rw [hs]; rfl) (by rw [hs]; rfl) (by rfl) (by rfl)
  rw [hs]
  show wpAny _ _ (spliced [(false, eval e X.env)]) _ _ s
  refine Calls.spliced_cons (thn (he.run pins s σ H _ I h) fun u s1 ⟨x1, H1, I1, r1, a, us, rows, ex, ne, hsm, hT, q⟩ => Calls.spliced_nil ?_)
  subst ex
  obtain rfl : u = Value.ref a := r1
  show wpAny _ _ (evalAll [do let v ← eval (.Lambda params (.Tuple [.Call (.Name ("len" : Str) p1) [.Name x p2] [] p3, .Name x p4] cx p5) scope lpos) X.env; standAt pos; pure v]) _ _ s1
  refine wpAny_evalAll_cons (wpAny_bind (lam_make2 I1 TB hcode hmT hu hT hdef (fun y hy e => by rcases L.names y hy with z | z <;> rw [z] at e <;> cases e) fun f c' pm ctv H2 s2 I2 hE hT2 hf hfn _ hc => ?_))
  refine wpAny_bind (wpAny_standAt (wpAny_pure (wpAny_evalAll_nil ?_)))
  obtain ⟨hq, hd, q⟩ := q H2 hE hT2
  exact srt_key I2 L hroom hf hc (hbind _ _ _ _ _) hml hx (hq.elim id fun z => by cases z.1) hd hsm q
end
end SK

namespace IN
open PySem PySem.Spec PyProof.Rows L2
def tFldC (C : Addr) (f : Str) (ta : TE) : TE := fun σ H Q => ta σ H fun x H1 => ∃ a dx fs v, x = .ref a ∧ H1 a = some (.ins C dx fs) ∧ fs.lookup f = some v ∧ Q v H1
def tMethS (C : Addr) (m : Str) (sp : Sp) (E : L2.St → XK) (ta : TE) (t : TA) : TE := fun σ H Q => ta σ H fun x H1 => ∃ a dx fs, x = .ref a ∧ H1 a = some (.ins C dx fs) ∧ fs.lookup m = none ∧ t σ H1 fun vs H2 => sp (x :: vs) H2 Q (E σ)
def tMakeS (C : Addr) (sp : Sp) (E : L2.St → XK) (t : TA) : TE := fun σ H Q => t σ H fun vs H1 => ∀ x dx, H1 x = none → H1 dx = none → dx ≠ x → sp (.ref x :: vs) (upd (upd H1 dx (.own x)) x (.ins C dx [])) (fun v H2 => v = .non ∧ Q (.ref x) H2) (E σ)
def sFldC (C : Addr) (f : Str) (ta tv : TE) : TS := fun D σ H => tv σ H fun y H1 => ta σ H1 fun x H2 => ∃ a dx fs, x = .ref a ∧ H2 a = some (.ins C dx fs) ∧ fs.length < 1000 ∧ D.nx σ (upd H2 a (.ins C dx (putF f y fs)))
def sFldAugC (C : Addr) (f : Str) (rd : R2) (ta tv : TE) : TS := fun D σ H => ta σ H fun x H1 => ∃ a dx fs v, x = .ref a ∧ H1 a = some (.ins C dx fs) ∧ fs.lookup f = some v ∧
  tv σ H1 fun y H2 => rd v y H2 fun z H3 => ∃ dx' fs', H3 a = some (.ins C dx' fs') ∧ fs'.length < 1000 ∧ D.nx σ (upd H3 a (.ins C dx' (putF f z fs')))
section
variable {X : Cx} {CX : CXT} {k : Nat} {f C g : Addr} {fd : FuncData} {ps : List Str} {sp : Sp} {E : L2.St → XK} {x m n : Str} {p pos apos pos' tpos : Pos} {e o value : Expr} {es : List Expr} {ta tv : TE} {t : TA}
theorem pe_fldC (c : Cls X.K C) (na : NoAttr X.K C n) (he : PE X e ta) (hb : attributeBase e n X.env (eval e X.env) = eval e X.env) : PE X (.Attribute e n pos) (tFldC C n ta) := by
  refine ⟨fun pins s σ H Q I h => ?_⟩
  refine attr_of hb (thn (he.run pins s σ H _ I h) fun u s1 ⟨x, H1, I1, rx, a, dx, fs, v, ex, ea, l, q⟩ => ?_)
  subst ex
  obtain rfl : u = Value.ref a := rx
  exact getattr_ok I1 ea c na l fun u' s2 I2 ru => ⟨v, H1, I2, ru, q⟩
theorem pe_methS {pl : Sem Bool} (he : PE X o ta) (c : Cls X.K C) (hm : Meth X.K C m g) (F : FnOk X.prog X.w X.K X.mg X.base CX k g fd ps sp) (hr : Room k X.A) (hb : Binds X.K fd ps []) (hx : ∀ σ, PassesAt CX X σ (E σ)) (ha : PA X (e :: es) t)
    (hst : starEach (e :: es) X.env = (false, eval e X.env) :: starEach es X.env) (hpl : (backTo pos (starEach es X.env)).any (·.1) = false)
    (ht : eval (.Call (.Attribute o m apos) (e :: es) [] pos) X.env = (do
      let ov ← eval o X.env
      standAt apos.atName
      let (f, first) ← holding [ov] (getMethod ov m pl)
      callWith pos f first (backTo pos (starEach (e :: es) X.env)) (backToKw pos (keywordEach [] X.env)))) :
    PE X (.Call (.Attribute o m apos) (e :: es) [] pos) (tMethS C m sp E ta t) := by
  refine ⟨fun pins s σ H Q I h => ?_⟩
  refine PySem.W.methodCall_KW (pl := pl) (thn (he.run pins s σ H _ I h) fun u s1 ⟨x, H1, I1, rx, a, dx, fs, ex, ea, l, q⟩ => ?_) ht
  subst ex
  obtain rfl : u = Value.ref a := rx
  refine getmeth_ok I1 ea c hm l ?_
  refine PySem.W.callWith_K (first := [.ref a]) (h₀ := X.base) I.ok.mod.kin hm.kp (thn (ha.run pos pins s1 σ H1 _ I1 q) fun us s2 ⟨vs, H2, I2, r, q2⟩ => ⟨I2.kIn, ?_⟩) hst hpl
  exact run_fnS (us := .ref a :: us) (vs := .ref a :: vs) F hr hb (hx σ) I2 (.cons rfl r) q2
theorem pe_methS0 {pl : Sem Bool} (he : PE X o ta) (c : Cls X.K C) (hm : Meth X.K C m g) (F : FnOk X.prog X.w X.K X.mg X.base CX k g fd ps sp) (hr : Room k X.A) (hb : Binds X.K fd ps []) (hx : ∀ σ, PassesAt CX X σ (E σ))
    (ht : eval (.Call (.Attribute o m apos) [] [] pos) X.env = (do
      let ov ← eval o X.env
      standAt apos.atName
      let (f, first) ← holding [ov] (getMethod ov m pl)
      callWith pos f first (backTo pos (starEach [] X.env)) (backToKw pos (keywordEach [] X.env)))) :
    PE X (.Call (.Attribute o m apos) [] [] pos) (tMethS C m sp E ta tNil) := by
  refine ⟨fun pins s σ H Q I h => ?_⟩
  refine PySem.W.methodCall_KW (pl := pl) (thn (he.run pins s σ H _ I h) fun u s1 ⟨x, H1, I1, rx, a, dx, fs, ex, ea, l, q⟩ => ?_) ht
  subst ex
  obtain rfl : u = Value.ref a := rx
  refine getmeth_ok I1 ea c hm l ?_
  exact PySem.W.callWith_K0 (first := [.ref a]) I1.kIn hm.kp (run_fnS (us := [.ref a]) (vs := [.ref a]) F hr hb (hx σ) I1 (.cons rfl .nil) q)
theorem run_makeS {pins : List (Addr × Obj)} {σ : L2.St} {H : Hp} {s : Shared} {Q : VK} {us : List Value} {vs : List V} (M : Mk X.K C g) (F : FnOk X.prog X.w X.K X.mg X.base CX k g fd ps sp) (hr : Room (k + 1) X.A) (hb : Binds X.K fd ps [])
    (hx : PassesAt CX X σ (E σ)) (I : Inv X pins σ H s) (r : Vals vs us)
    (h : ∀ x dx, H x = none → H dx = none → dx ≠ x → sp (.ref x :: vs) (upd (upd H dx (.own x)) x (.ins C dx [])) (fun v H2 => v = .non ∧ Q (.ref x) H2) (E σ)) :
    wpAny (model X.prog X.w) X.A (call (.ref C) us) (EP X pins σ Q) X.xe s := by
  have hq := h (s.heap.objs.size + 1) s.heap.objs.size (I.hok.fresh (Nat.le_succ _)) (I.hok.fresh (Nat.le_refl _)) (Nat.ne_of_lt (Nat.lt_succ_self _))
  have I2 := Inv.made (C := C) I
  have r2 : Vals (V.ref (s.heap.objs.size + 1) :: vs) (Value.ref (s.heap.objs.size + 1) :: us) := .cons rfl r
  have hl : (Value.ref (s.heap.objs.size + 1) :: us).length = ps.length := by
    have e := r2.length
    rw [F.len _ _ _ _ hq] at e
    exact e.symm
  have b := hb _ (Value.ref (s.heap.objs.size + 1) :: us) I2.kIn (by rw [List.append_nil]; exact hl)
  rw [List.append_nil] at b
  refine wpAny_call (make_map (f := g) I.kIn M.makes M.init (beq_iff_eq.mp M.fn) (codeAny_mono (F.run _ X.stack _ _ ⟨Value.ref (s.heap.objs.size + 1) :: us, []⟩ (Value.ref (s.heap.objs.size + 1) :: us) _ _ (E σ) (hr.make C us [])
    (I2.env0.make C us []) b r2 hq) fun r s' hq' => ?_))
  cases r with
  | error e => exact hx pins _ _ e s' I2 hq'
  | ok fl =>
    cases fl with
    | ret u =>
      obtain ⟨v, H', I3, rv, ev, q3⟩ := I2.after hq'
      subst ev
      exact ⟨rv, ⟨V.ref (s.heap.objs.size + 1), H', I3, rfl, q3⟩⟩
    | next => exact False.elim hq'
    | brk => exact False.elim hq'
    | cont => exact False.elim hq'
theorem pe_makeS (M : Mk X.K C g) (F : FnOk X.prog X.w X.K X.mg X.base CX k g fd ps sp) (hr : Room (k + 1) X.A) (hg : Gl X x) (hm : X.mg x = some (.ref C)) (hb : Binds X.K fd ps []) (hx : ∀ σ, PassesAt CX X σ (E σ))
    (ha : PA X (e :: es) t) (hdb : (x == ("__debug__" : Str)) = false) (he : starEach (e :: es) X.env = (false, eval e X.env) :: starEach es X.env) (hpl : (backTo pos (starEach es X.env)).any (·.1) = false) :
    PE X (.Call (.Name x p) (e :: es) [] pos) (tMakeS C sp E t) := by
  refine ⟨fun pins s σ H Q I h => ?_⟩
  refine wpAny_Call_Name_kw (ld_glob I hg hm ?_ hdb)
  refine PySem.W.callWith_K (h₀ := X.base) I.ok.mod.kin M.kp (thn (ha.run pos pins s σ H _ I h) fun us s1 ⟨vs, H1, I1, r, q⟩ => ⟨I1.kIn, ?_⟩) he hpl
  exact run_makeS M F hr hb (hx σ) I1 r q
theorem pe_makeS0 (M : Mk X.K C g) (F : FnOk X.prog X.w X.K X.mg X.base CX k g fd ps sp) (hr : Room (k + 1) X.A) (hg : Gl X x) (hm : X.mg x = some (.ref C)) (hb : Binds X.K fd ps []) (hx : ∀ σ, PassesAt CX X σ (E σ))
    (hdb : (x == ("__debug__" : Str)) = false) : PE X (.Call (.Name x p) [] [] pos) (tMakeS C sp E tNil) := by
  refine ⟨fun pins s σ H Q I h => ?_⟩
  refine wpAny_Call_Name_kw (ld_glob I hg hm ?_ hdb)
  exact PySem.W.callWith_K0 I.kIn M.kp (run_makeS (us := []) (vs := []) M F hr hb (hx σ) I .nil h)
theorem ps_fldC (c : Cls X.K C) (na : NoAttr X.K C n) (ha : PE X o ta) (hv : PE X value tv) (hs : swapsWith value (some (.Attribute o n pos')) pos.line X.env = pure false) : PS X (.Assign [.Attribute o n pos'] value pos) (sFldC C n ta tv) := by
  refine ⟨fun pins s σ H D I h => ?_⟩
  refine plainObj_wpAny_Assign_Attribute (thn (hv.run pins s σ H _ I h) fun u s1 ⟨y, H1, I1, ry, q⟩ => thn (ha.run pins s1 σ H1 _ I1 q) fun ov s2 ⟨x, H2, I2, rx, a, dx, fs, ex, ea, l, q2⟩ => ?_) hs
  subst ex
  obtain rfl : ov = Value.ref a := rx
  exact setattr_ok I2 ea c na l ry fun s3 I3 => ⟨σ, _, I3, q2⟩
theorem ps_fldaugC {op : Operator} {rd : R2} (c : Cls X.K C) (na : NoAttr X.K C n) (ha : PE X o ta) (hv : PE X value tv) (hop : OpR X (inplaceOp op) rd) : PS X (.AugAssign (.Attribute o n tpos) op value pos) (sFldAugC C n rd ta tv) := by
  refine ⟨fun pins s σ H D I h => ?_⟩
  refine wpAny_AugAssign_AttributeAny (thn (ha.run pins s σ H _ I h) fun ov s1 ⟨x, H1, I1, rx, a, dx, fs, v, ex, ea, l, q⟩ => ?_)
  subst ex
  obtain rfl : ov = Value.ref a := rx
  refine getattr_ok I1 ea c na l fun u s2 I2 ru => thn (hv.run pins s2 σ H1 _ I2 q) fun w3 s3 ⟨y, H2, I3, ry, q3⟩ => thn (hop pins s3 σ H2 v y u w3 _ I3 ru ry q3) fun w4 s4 ⟨z, H3, I4, rz, dx', fs', ea', l', q4⟩ => ?_
  exact setattr_ok I4 ea' c na l' rz fun s5 I5 => ⟨σ, _, I5, q4⟩
end
end IN

namespace GU
open PySem PySem.Spec PyProof.Rows L2 LamX GenW GX
abbrev sO (acc : Int) (t : Tok) (c : Nat) : Obj := { cls := .type "list", dict := none, data := .seq #[.int acc t] c, slots := #[] }
def TurnsS (J : It) (g : TG) (tt : TT) (te : TE) (σw : L2.St) (vs : List Nat) (Q : VK) (W : Nat → Nat → Int → Hp → Prop) : Prop :=
  ∀ i m acc H, W i m acc H → (J.stop i H ∧ Q (.int acc) H) ∨ (J.go i H ∧ ∃ Nx : Int → Hp → Prop, (∀ r H', Nx r H' → ∃ m', m' < m ∧ W (i + 1) m' r H') ∧ ∀ x H', J.yld i H x H' → g x σw H' fun σ2 H2 => wipe σ2 vs = σw ∧ tt σ2 H2 fun k H3 =>
    if k = true then te σ2 H3 fun y H4 => ∃ r, y = .int r ∧ Nx (acc + r) H4 else Nx acc H3)
def EndS (X : Cx) (a : Addr) (go : Obj) (S : Addr) (Q : VK) : Nat → Shared → Shared → Prop := fun _ s₀ s₁ => ∃ acc t c σ' H', s₀.heap.get? S = some (sO acc t c) ∧ Inv X [(a, go), (S, sO acc t c)] σ' H' s₁ ∧ Q (.int acc) H'
def YieldS (X : Cx) (a : Addr) (go : Obj) (gn : Nat) (S : Addr) : Protocol := fun _ s₀ v s₁ kap => ∃ r tv acc t c, v = .int r tv ∧ s₀.heap.get? S = some (sO acc t c) ∧ s₁.heap.get? S = some (sO acc t c) ∧ AllBare s₁.gens ∧ s₁.heap.NoLimit ∧ s₁.heap.IsGen a gn ∧
  ∀ s', s'.os = s₁.os → AllBare s'.gens → (∀ x o, x ≠ S → s₁.heap.get? x = some o → s'.heap.get? x = some o) → (∃ t' c', s'.heap.get? S = some (sO (acc + r) t' c')) → kap (.send .none) s'
theorem woke {X : Cx} {a S : Addr} {go o o' : Obj} {σ : L2.St} {H : Hp} {s s' : Shared} (hpn : X.pn = []) (haS : a ≠ S) (ap : X.s_0.heap.objs.size ≤ S ∧ S ≠ X.env.locals ∧ ∀ x c, X.env.cells.lookup x = some c → c ≠ S) (I : Inv X [(a, go), (S, o)] σ H s)
    (os : s'.os = s.os) (bare : AllBare s'.gens) (keep : ∀ x o, x ≠ S → s.heap.get? x = some o → s'.heap.get? x = some o) (new : s'.heap.get? S = some o') (nc : ∀ v, o'.data ≠ .cell v) : Inv X [(a, go), (S, o')] σ H s' := by
  obtain ⟨eS, hS0, hSL, hSf, _⟩ := I.pin (S, o) (List.mem_append_right _ (List.mem_cons_of_mem _ List.mem_cons_self))
  have I0 : Inv X [(a, go)] σ H s := I.pins_of fun p hp => I.pin p (List.mem_append_right _ (by rw [List.mem_singleton.mp hp]; exact List.mem_cons_self))
  have nt : ∀ b u, H b = some u → b ≠ S := fun b u q hb => by rw [hb] at q; rw [show H S = none from hS0] at q; cases q
  obtain ⟨hh, g, d, t, ow⟩ := s'
  have ho : ow = s.os := os
  subst ho
  have nc' : ∀ b, b ∉ [S] → b ≠ S := fun b hb e => hb (by rw [e]; exact List.mem_singleton.mpr rfl)
  have J : Inv X [(a, go)] σ H { s with heap := hh, gens := g, drawn := d, toks := t } := by
    refine I0.step (g' := g) (t' := t) (d' := d) (ch := [S]) (fun b hb => ?_)
      (fun b ob _ _ hc q _ => keep b ob (nc' b hc) q) (fun b ob _ _ hc q _ => ⟨ob.slots, keep b ob (nc' b hc) q⟩) (fun _ _ _ _ n => n) (fun b ob hc q => ⟨ob, keep b ob (nc' b hc) q⟩)
      (fun _ _ q => q) (fun _ _ _ q => q) (fun b ps q => ⟨#[], by rw [q]; simp⟩) (fun m hm => ?_) (fun b u q => ?_) bare
    · rw [List.mem_singleton.mp hb]
      refine ⟨.inr ap.1, ap.2.1, ap.2.2, fun p hp => ?_⟩
      rw [hpn, List.nil_append] at hp
      rw [List.mem_singleton.mp hp]
      exact haS
    · obtain ⟨ob, es, ep, ho, r⟩ := hm
      exact ⟨ob, es, ep, keep _ ob (fun z => hSL z.symm) ho, r⟩
    · refine (I0.hok b u q).stay (fun c v hc y => keep c v ?_ y) (fun _ y => y) fun _ _ y => y
      rcases hc with y | y
      · rw [y]; exact nt b u q
      · exact nt c _ y
  refine J.pins_of fun p hp => ?_
  rcases List.mem_cons.mp hp with hp | hp
  · rw [hp]
    exact J.pin (a, go) (List.mem_append_right _ List.mem_cons_self)
  · rw [List.mem_singleton.mp hp]
    exact ⟨new, hS0, hSL, hSf, nc⟩
section
variable {X : Cx} {elt tg iter : Expr} {ifs : List Expr} {scope : Scope} {pos : Pos} {it a S : Addr} {fp : List Addr} {tn : Nat → Heap → Prop} {J : It} {σw : L2.St} {vs : List Nat} {go : Obj} {gn : Nat} {g : TG} {tt : TT} {te : TE} {Q : VK} {W : Nat → Nat → Int → Hp → Prop} {A : Around}
theorem seg_gu (hA : X.A = A.over (loopC elt tg iter ifs scope pos it X.env) []) (hc : X.calm = true) (hpn : X.pn = []) (hxe : X.xe = fun _ _ => False) (hco : X.env.scope.isCoroutine = false) (hgo : ∀ h : Heap, h.get? a = some go → h.IsGen a gn) (T : Turn X.prog X.w X.K tg J fp it tn) (hex : ∀ b ∈ fp, b ∈ X.ex) (hafp : ∀ b ∈ fp, a ≠ b) (hSfp : ∀ b ∈ fp, S ≠ b)
    (haS : a ≠ S) (ap : X.s_0.heap.objs.size ≤ S ∧ S ≠ X.env.locals ∧ ∀ x c, X.env.cells.lookup x = some c → c ≠ S)
    (pg : PG X tg g) (pt : PTs X ifs tt) (pe : PE X elt te) (hvs : ∀ σ' : L2.St, wipe σ' vs = σw → σw.length = σ'.length ∧ ∀ (j : Nat) (v : V), σw[j]? = some (some v) → σ'[j]? = some (some v)) (turn : TurnsS J g tt te σw vs Q W) :
    ∀ (m n i : Nat) (s₀ s : Shared) (H : Hp) (acc : Int) (t : Tok) (c : Nat), m < n → W i m acc H → s₀.heap.get? S = some (sO acc t c) → Inv X [(a, go), (S, sO acc t c)] σw H s → tn i s.heap → (∀ b ∈ fp, H b = none) →
      Seg (model X.prog X.w) A (fun n s₀ r s₁ => r = .ok .next ∧ EndS X a go S Q n s₀ s₁) (YieldS X a go gn S) n s₀ (loopC elt tg iter ifs scope pos it X.env) ((model X.prog X.w).den (loopC elt tg iter ifs scope pos it X.env)) [] s := by
  have stat : ∀ {σ' : L2.St} {H' : Hp} {s' : Shared} {o : Obj}, Inv X [(a, go), (S, o)] σ' H' s' → (∀ b ∈ fp, H' b = none) → ∀ b ∈ fp, FpOk X [(a, go), (S, o)] H' b := fun {σ' H' s' o} I' hn b hb =>
    ⟨hn b hb, (I'.ok.exf b (hex b hb)).1, I'.ok.exfs b (hex b hb), .inl (hex b hb), fun x c e => (I'.ok.exf b (hex b hb)).2 x c e, fun p hp => by
      rw [hpn, List.nil_append] at hp
      rcases List.mem_cons.mp hp with hp | hp
      · rw [hp]
        exact hafp b hb
      · rw [List.mem_singleton.mp hp]
        exact hSfp b hb⟩
  intro m
  induction m using Nat.strongRecOn with
  | ind m ih =>
    intro n i s₀ s H acc t c hmn hw hs0 I hst hn
    show Seg _ A _ _ _ s₀ _ ((compTurn (.GeneratorExp elt [⟨tg, iter, ifs, 0⟩] scope pos) 0 (.ref it) .none X.env).onRaise (leaving X.env)) [] s
    rw [compTurn_gen, Sem.onRaise_eq_wrap]
    refine seg_bind_wrap (wpAny_standAt ?_)
    rcases turn i m acc H hw with ⟨stop, hq⟩ | ⟨hgo2, Nx, hNx, step⟩
    · refine seg_bind_wrap ?_
      rw [← hA]
      refine thnF (T.done X rfl rfl rfl hc i [(a, go), (S, sO acc t c)] s σw H (fun _ _ => False) I (stat I hn) hst stop) fun r s1 ⟨hr, I1⟩ => ?_
      subst hr
      exact seg_end (.ok .next) ⟨rfl, acc, t, c, σw, H, hs0, I1, hq⟩
    · refine seg_bind_wrap ?_
      rw [← hA]
      refine thnF (T.item X rfl rfl rfl hc i [(a, go), (S, sO acc t c)] s σw H (fun _ _ => False) I (stat I hn) hst hgo2) fun r s1 ⟨u, hr, h6⟩ => ?_
      subst hr
      refine seg_bind_wrap ?_
      rw [← hA]
      refine thnF h6 fun _ s7 ⟨x, H7, I7, r7, y7, st7, n7⟩ => ?_
      have I7' := I7.pinned (stat I7 n7) (T.obj _ _ st7)
      refine seg_bind_wrap ?_
      rw [← hA]
      have e1 := pg.run _ s7 _ H7 x u _ I7' r7 (step x H7 y7)
      rw [hxe] at e1
      refine thnF e1 fun _ s8 ⟨σ8, H8, I8, hw8, q8⟩ => ?_
      refine seg_bind_wrap ?_
      rw [← hA]
      have e2 := pt.run _ s8 σ8 H8 _ I8 q8
      rw [hxe] at e2
      refine thnF e2 fun k s9 ⟨H9, I9, q9⟩ => ?_
      -- the turn's end
      obtain ⟨hl, hwk⟩ := hvs σ8 hw8
      have fin : ∀ {s' : Shared} {H' : Hp}, Inv X ([(a, go), (S, sO acc t c)] ++ pinsAt fp s7.heap) σ8 H' s' → Inv X [(a, go), (S, sO acc t c)] σw H' s' ∧ tn (i + 1) s'.heap ∧ ∀ b ∈ fp, H' b = none := fun {s' H'} I' => by
        have pin' : ∀ b ∈ fp, ∀ o, s7.heap.get? b = some o → s'.heap.get? b = some o ∧ H' b = none := fun b hb o e =>
          let z := I'.pin (b, o) (List.mem_append_right _ (List.mem_append_right _ (mem_pinsAt hb e)))
          ⟨z.1, z.2.1⟩
        refine ⟨(I'.unpinned (pins := [(a, go), (S, sO acc t c)])).weak hl fun j v e => hwk j v e, T.keep _ _ _ st7 fun b hb o e => (pin' b hb o e).1, fun b hb => ?_⟩
        obtain ⟨o, e, _⟩ := T.obj _ _ st7 b hb
        exact (pin' b hb o e).2
      cases k with
      | false =>
        simp only [Bool.false_eq_true, if_false] at q9 ⊢
        obtain ⟨m', hm, w'⟩ := hNx _ _ q9
        obtain ⟨J1, J2, J3⟩ := fin I9
        exact seg_again rfl (ih m' hm n (i + 1) s₀ s9 H9 acc t c (by omega) w' hs0 J1 J2 J3)
      | true =>
        simp only [if_true] at q9 ⊢
        have hy : ∀ v, yieldOut X.env v = yieldValue v := fun v => by simp only [yieldOut, hco, Bool.false_eq_true, if_false]
        simp only [hy]
        rw [Sem.bind_eq_wrap', Sem.bind_eq_wrap', Sem.wrap_wrap, Sem.wrap_wrap]
        have e3 := pe.run _ s9 σ8 H9 _ I9 q9
        rw [hxe] at e3
        refine seg_wrap ?_
        rw [← hA]
        refine thnF e3 fun z s10 ⟨yv, H10, I10, r10, r, ey, q10⟩ => ?_
        subst ey
        obtain ⟨tv, ez⟩ : ∃ tv, z = Value.int r tv := r10
        subst ez
        obtain ⟨J1, J2, J3⟩ := fin I10
        have gi : s10.heap.IsGen a gn := hgo _ (J1.pin (a, go) (List.mem_append_right _ List.mem_cons_self)).1
        have gS : s10.heap.get? S = some (sO acc t c) := (J1.pin (S, sO acc t c) (List.mem_append_right _ (List.mem_cons_of_mem _ List.mem_cons_self))).1
        obtain ⟨m', hm, w'⟩ := hNx _ _ q10
        cases n with
        | zero => omega
        | succ n =>
          refine seg_at (seg_yield rfl rfl rfl ⟨r, tv, acc, t, c, rfl, hs0, gS, J1.bare, J1.nolimit, gi, fun s' ho hb hk hn' => ?_⟩)
          obtain ⟨t', c', hn'⟩ := hn'
          refine seg_again rfl (ih m' hm n (i + 1) s' s' H10 (acc + r) t' c' (by omega) w' hn' (woke hpn haS ap J1 ho hb hk hn' fun v z => by cases z) (T.keep _ _ _ J2 fun b hb o e => hk b o (fun z => hSfp b hb z.symm) e) J3)
end
section
variable {X : Cx} {elt tg iter : Expr} {ifs : List Expr} {scope : Scope} {pos : Pos} {it a S : Addr} {fp : List Addr} {tn : Nat → Heap → Prop} {J : It} {σw : L2.St} {vs : List Nat} {go : Obj} {gn : Nat} {g : TG} {tt : TT} {te : TE} {Q : VK} {W : Nat → Nat → Int → Hp → Prop} {A : Around}
theorem seg_guStart (hA : X.A = A.over (loopC elt tg iter ifs scope pos it X.env) []) (hc : X.calm = true) (hpn : X.pn = []) (hxe : X.xe = fun _ _ => False) (hco : X.env.scope.isCoroutine = false) (hgo : ∀ h : Heap, h.get? a = some go → h.IsGen a gn) (T : Turn X.prog X.w X.K tg J fp it tn) (hex : ∀ b ∈ fp, b ∈ X.ex) (hafp : ∀ b ∈ fp, a ≠ b) (hSfp : ∀ b ∈ fp, S ≠ b)
    (haS : a ≠ S) (ap : X.s_0.heap.objs.size ≤ S ∧ S ≠ X.env.locals ∧ ∀ x c, X.env.cells.lookup x = some c → c ≠ S)
    (pg : PG X tg g) (pt : PTs X ifs tt) (pe : PE X elt te) (hvs : ∀ σ' : L2.St, wipe σ' vs = σw → σw.length = σ'.length ∧ ∀ (j : Nat) (v : V), σw[j]? = some (some v) → σ'[j]? = some (some v)) (turn : TurnsS J g tt te σw vs Q W)
    {m n : Nat} {s₀ s : Shared} {H : Hp} {acc : Int} {t : Tok} {c : Nat} (hmn : m < n) (hw : W 0 m acc H) (hs0 : s₀.heap.get? S = some (sO acc t c)) (I : Inv X [(a, go), (S, sO acc t c)] σw H s) (hst : tn 0 s.heap) (hn : ∀ b ∈ fp, H b = none) :
    Seg (model X.prog X.w) A (fun n s₀ r s₁ => r = .ok .next ∧ EndS X a go S Q n s₀ s₁) (YieldS X a go gn S) n s₀ (.compStart (.GeneratorExp elt [⟨tg, iter, ifs, 0⟩] scope pos) 0 (.ref it) .none X.env) ((model X.prog X.w).den (.compStart (.GeneratorExp elt [⟨tg, iter, ifs, 0⟩] scope pos) 0 (.ref it) .none X.env)) [] s := by
  have loop := seg_gu (elt := elt) (iter := iter) (scope := scope) (pos := pos) hA hc hpn hxe hco hgo T hex hafp hSfp haS ap pg pt pe hvs turn m n 0 s₀ s H acc t c hmn hw hs0 I hst hn
  show Seg _ A _ _ _ s₀ _ ((compStart (.GeneratorExp elt [⟨tg, iter, ifs, 0⟩] scope pos) 0 (.ref it) .none X.env).onRaise (leaving X.env)) [] s
  unfold compStart
  rw [Sem.onRaise_eq_wrap]
  show Seg _ A _ _ _ s₀ _ ((ask >>= _).wrap _ _ _ _) [] s
  refine seg_bind_wrap (wpAny_askSetting ?_)
  split
  · exact seg_again rfl loop
  · first
      | exact seg_bind_wrap (wpAny_rule (seg_bind_wrap (wpAny_standAt (seg_bind_wrap (T.self _ 0 s _ _ hst (seg_again rfl loop))))))
      | (refine seg_bind_wrap (wpAny_rule ?_); show Seg _ A _ _ _ s₀ _ ((standAt iter.pos >>= _).wrap _ _ _ _) [] s; exact seg_bind_wrap (wpAny_standAt (seg_bind_wrap (T.self _ 0 s _ _ hst (seg_again rfl loop)))))
end
section
variable {X : Cx} {a S : Addr} {go : Obj} {gn : Nat} {Q : VK} {A : Around} {R : Result → Shared → Prop}
theorem consumeS (hh : A.handled = none) (hroom : A.depth < recursionLimit) (hSa : S ≠ a) (hSc : S ≠ cStatics)
    (hR : ∀ (acc : Int) (t : Tok) (c : Nat) (σ' : L2.St) (H' : Hp) (s' : Shared), Inv X [(a, go), (S, sO acc t c)] σ' H' s' → Q (.int acc) H' → R (.ok (.ret (.int acc t))) s') :
    ∀ (n : Nat) (s : Shared) (acc : Int) (tA : Tok) (c : Nat) (st : Int), (st = 0 ∨ st = 2) → s.heap.get? S = some (sO acc tA c) → s.heap.IsGen a gn → s.heap.NoLimit →
      (∃ gs, s.gens[gn]? = some gs ∧ gs.Goes (model X.prog X.w) A.in1.in1 (fun n s₀ r s₁ => r = .ok .next ∧ EndS X a go S Q n s₀ s₁) (YieldS X a go gn S) n (.send .none) (s.setGen gn .running)) →
      codeAny (model X.prog X.w) A (.builtin "sum.loop" ⟨[.ref a, .ref S, rawInt st, rawInt 0], []⟩) R s := by
  intro n
  induction n with
  | zero =>
    intro s acc tA c st hst2 hS hg hl ⟨gs, hgs, hgo⟩
    refine codeAny_builtin F.entry_sum_loop ?_
    rw [Around.under_plainId F.plain_sum_loop _]
    show wpAny _ A.in1 (seqItems? (.ref S) >>= _) _ _ s
    refine wpAny_bind (wpAny_seqItems hS rfl ?_)
    show wpAny _ A.in1 (tryCatch (pyNext (.ref a)) _ >>= _) _ _ s
    refine wpAny_bind (wpAny_tryCatch (wpAny_pyNext_genexpQ (A := A.in1) (P := EndS X a go S Q) hh hl hroom hg hgs hgo (fun v s₁ gs' hb hv => ?_) (fun s₁ hp h' hk => ?_)))
    · obtain ⟨r, tv, acc', t', c', rfl, h0, h1, hbr, hl1, hg1, hk⟩ := hv
      exact (hk { s₁ with heap := s₁.heap.update S (Obj.mapSeq fun _ => #[.int (acc' + r) 0]) } rfl hbr (fun x o hx e => (Heap.get?_update_other _ _ (Ne.symm hx)).trans e) ⟨0, _, Heap.get?_update_self _ h1 rfl⟩).elim
    · obtain ⟨acc', t', c', σ', H', h0, I, q⟩ := hp
      have h0 : s.heap.get? S = some (sO acc' t' c') := h0
      rw [hS] at h0
      cases h0
      refine wpAny_pure ?_
      exact hR acc tA c σ' H' _ (inv_more (s' := { s₁.setGen gn .finished with heap := h' }) I rfl hk (allBare_setGen I.bare rfl)) q
  | succ n ih =>
    intro s acc tA c st hst2 hS hg hl ⟨gs, hgs, hgo⟩
    have hgl : gn < s.gens.size := (Array.getElem?_eq_some_iff.mp hgs).1
    refine codeAny_builtin F.entry_sum_loop ?_
    rw [Around.under_plainId F.plain_sum_loop _]
    show wpAny _ A.in1 (seqItems? (.ref S) >>= _) _ _ s
    refine wpAny_bind (wpAny_seqItems hS rfl ?_)
    show wpAny _ A.in1 (tryCatch (pyNext (.ref a)) _ >>= _) _ _ s
    refine wpAny_bind (wpAny_tryCatch (wpAny_gsz (n := gn + 1) hgl (wpAny_pyNext_genexpQ (A := A.in1) (P := EndS X a go S Q) hh hl hroom hg hgs hgo (fun v s₁ gs' hb hv => ?_) (fun s₁ hp h' hk => ?_))))
    · intro hsz
      obtain ⟨r, tv, acc', t', c', rfl, h0, hS', hbr, hl1, hg1, hk⟩ := hv
      have h0 : s.heap.get? S = some (sO acc' t' c') := h0
      rw [hS] at h0
      cases h0
      have hsz1 : gn < s₁.gens.size := by
        have q : (s₁.setGen gn gs').gens.size = s₁.gens.size := setGen_size _ _ _
        have hsz' : gn + 1 ≤ (s₁.setGen gn gs').gens.size := hsz
        omega
      have go2 : ∀ (h3 : Heap) (tk : Nat) (tA' : Tok) (c' : Nat) (st' : Int), (st' = 0 ∨ st' = 2) → h3.get? S = some (sO (acc + r) tA' c') → (∀ x o, x ≠ S → s₁.heap.get? x = some o → h3.get? x = some o) →
          codeAny (model X.prog X.w) A (.builtin "sum.loop" ⟨[.ref a, .ref S, rawInt st', rawInt 0], []⟩) R { s₁.setGen gn gs' with heap := h3, toks := tk } := fun h3 tk tA' c' st' hst' e3 k3 => by
        refine ih { s₁.setGen gn gs' with heap := h3, toks := tk } (acc + r) tA' c' st' hst' e3 ?_ ?_ ⟨gs', setGen_at hsz1, ?_⟩
        · obtain ⟨o, nm, qn, ho, r⟩ := hg1
          exact ⟨o, nm, qn, k3 a o (Ne.symm hSa) ho, r⟩
        · obtain ⟨mc, hns, hnn⟩ := hl1
          exact ⟨mc, hns.at' fun o e => k3 _ o (Ne.symm hSc) e, hnn⟩
        · exact hk ({ s₁.setGen gn gs' with heap := h3, toks := tk }.setGen gn .running) rfl (allBare_setGen (s := { s₁.setGen gn gs' with heap := h3, toks := tk }) (allBare_setGen hbr hb) rfl) k3 ⟨tA', c', e3⟩
      rcases hst2 with rfl | rfl
      · show wpAny _ A.in1 (if (_ : Bool) = true then (mkInt (acc + r) >>= _) else _) _ _ _
        split
        · refine wpAny_bind (wpAny_mkInt ?_)
          show wpAny _ A.in1 (updateSeq S (fun _ => #[.int (acc + r) (s₁.setGen gn gs').toks]) >>= _) _ _ _
          refine wpAny_bind ?_
          refine wpAny_updateSeq (s := { s₁.setGen gn gs' with toks := _ }) hS' rfl (wpAny_pure ⟨plainId_quiet F.plain_sum_loop _, ?_⟩)
          exact go2 _ _ _ _ 0 (.inl rfl) (Heap.get?_update_self _ hS' rfl) fun x o hx e => (Heap.get?_update_other _ _ (Ne.symm hx)).trans e
        · refine wpAny_bind (wpAny_rule ?_)
          refine wpAny_bind (wpAny_attempt (wpAny_holding (wpAny_add_int ?_)))
          show wpAny _ A.in1 (updateSeq S (fun _ => #[.int (acc + r) (s₁.setGen gn gs').toks]) >>= _) _ _ _
          refine wpAny_bind (wpAny_updateSeq (s := { s₁.setGen gn gs' with toks := _ }) hS' rfl ?_)
          have hS₂ := Heap.get?_update_self (Obj.mapSeq fun _ => #[Value.int (acc + r) (s₁.setGen gn gs').toks]) hS' rfl
          refine wpAny_bind (wpAny_letGo ?_)
          refine wpAny_bind (wpAny_updateSeq (s := { s₁.setGen gn gs' with heap := _, toks := _ }) hS₂ rfl (wpAny_pure ⟨plainId_quiet F.plain_sum_loop _, ?_⟩))
          exact go2 _ _ _ _ 2 (.inr rfl) (Heap.get?_update_self _ hS₂ rfl) fun x o hx e => (Heap.get?_update_other _ _ (Ne.symm hx)).trans ((Heap.get?_update_other _ _ (Ne.symm hx)).trans e)
      · show wpAny _ A.in1 ((holding [Value.int r tv] (binaryOp .Add (.int acc tA) (.int r tv))).attempt >>= _) _ _ _
        refine wpAny_bind (wpAny_attempt (wpAny_holding (wpAny_add_int ?_)))
        show wpAny _ A.in1 (updateSeq S (fun _ => #[.int (acc + r) (s₁.setGen gn gs').toks]) >>= _) _ _ _
        refine wpAny_bind (wpAny_updateSeq (s := { s₁.setGen gn gs' with toks := _ }) hS' rfl ?_)
        have hS₂ := Heap.get?_update_self (Obj.mapSeq fun _ => #[Value.int (acc + r) (s₁.setGen gn gs').toks]) hS' rfl
        refine wpAny_bind (wpAny_letGo ?_)
        refine wpAny_bind (wpAny_updateSeq (s := { s₁.setGen gn gs' with heap := _, toks := _ }) hS₂ rfl (wpAny_pure ⟨plainId_quiet F.plain_sum_loop _, ?_⟩))
        exact go2 _ _ _ _ 2 (.inr rfl) (Heap.get?_update_self _ hS₂ rfl) fun x o hx e => (Heap.get?_update_other _ _ (Ne.symm hx)).trans ((Heap.get?_update_other _ _ (Ne.symm hx)).trans e)
    · intro hsz
      obtain ⟨acc', t', c', σ', H', h0, I, q⟩ := hp
      have h0 : s.heap.get? S = some (sO acc' t' c') := h0
      rw [hS] at h0
      cases h0
      refine wpAny_pure ?_
      exact hR acc tA c σ' H' _ (inv_more (s' := { s₁.setGen gn .finished with heap := h' }) I rfl hk (allBare_setGen I.bare rfl)) q
end
def tGu (T : List (Addr × Str)) (wi : TI) (g : TG) (tt : TT) (te : TE) (vs : List Nat) : TE := fun σ H Q => wi σ H fun J H1 => Tabs T H1 ∧ ∀ H2, ExtN H1 H2 → Tabs T H2 → ∃ W : Nat → Nat → Int → Hp → Prop, (∃ m, W 0 m 0 H2) ∧ TurnsS J g tt te (wipe σ vs) vs Q W
section
variable {X : Cx} {pins : List (Addr × Obj)} {σ : L2.St} {H : Hp} {s : Shared}
theorem pe_gu {T : List (Addr × Str)} {c P : Addr} {elt tg iter : Expr} {ifs : List Expr} {scope : Scope} {own : List (Str × Nat)} {gpos p pos : Pos} {wi : TI} {g : TG} {tt : TT} {te : TE} {k : Nat}
    (hg : Gl X ("sum" : Str)) (hmg : X.mg ("sum" : Str) = none) (hN : X.N.Nodup) (hroom : Room (k + 1) X.A) (TB : LamX.TabB X.base X.mg c P) (hcode : X.env.code = .ref c) (S : GxS X scope own) (hm : (P, X.env.qual ++ "<genexpr>") ∈ T) (hu : ∀ p ∈ T, p.1 = P → p.2 = X.env.qual ++ "<genexpr>")
    (hi : PI X tg iter wi) (hs : ∀ v, genFold iter X.env v = pure v)
    (pg : ∀ (A : Around) (s : Shared) (H : Hp) (C : Addr) (code : Value) (fp : List Addr), PG (gCx X A s H (gEnv X scope C code) fp) tg g)
    (pt : ∀ (A : Around) (s : Shared) (H : Hp) (C : Addr) (code : Value) (fp : List Addr), Room k A → PTs (gCx X A s H (gEnv X scope C code) fp) ifs tt)
    (pe : ∀ (A : Around) (s : Shared) (H : Hp) (C : Addr) (code : Value) (fp : List Addr), Room k A → PE (gCx X A s H (gEnv X scope C code) fp) elt te)
    (he : starEach [.GeneratorExp elt [⟨tg, iter, ifs, 0⟩] scope gpos] X.env = (false, eval (.GeneratorExp elt [⟨tg, iter, ifs, 0⟩] scope gpos) X.env) :: starEach [] X.env := by rfl) :
    PE X (.Call (.Name ("sum" : Str) p) [.GeneratorExp elt [⟨tg, iter, ifs, 0⟩] scope gpos] [] pos) (tGu T wi g tt te (own.map (·.2))) := by
  refine ⟨fun pins s σ H Q I h => ?_⟩
  have hboot : bootBuiltins ("sum" : Str) = some (.builtin "sum") := by decide +kernel
  refine wpAny_Call_Name_kw (ld_blt I hg hmg hboot ?_ (by decide +kernel) (by decide +kernel))
  refine PyProof.Rows.callWith_builtin1 ?_ he (by rfl)
  rw [he]
  show wpAny _ _ (spliced ((false, eval (.GeneratorExp elt [⟨tg, iter, ifs, 0⟩] scope gpos) X.env) :: backTo pos (starEach [] X.env))) _ _ s
  refine Calls.spliced_cons (gx_make (Pq := fun J H2 => ∃ W : Nat → Nat → Int → Hp → Prop, (∃ m, W 0 m 0 H2) ∧ TurnsS J g tt te (wipe σ (own.map fun x : Str × Nat => x.2)) (own.map fun x : Str × Nat => x.2) Q W) hN hroom TB hcode S hm hu hi hs I h ?_)
  intro s4 H3 code it a fp tn J gn go s5 I4 hfp Tu st5 pq os5 bare5 mk hgo hafp hfr
  obtain ⟨W, ⟨m, w0⟩, turn⟩ := pq
  refine Calls.spliced_nil ?_
  generalize hge : gEnv X scope s4.heap.objs.size code = ge at *
  have hA2 : (X.A.in1.in1.over (loopC elt tg iter ifs scope gpos it ge) []).handled = none := hroom.hd
  have hF2 : (X.A.in1.in1.over (loopC elt tg iter ifs scope gpos it ge) []).frames = some (ge :: X.stack) := by
    have e : X.A.in1.in1.frames = some X.stack := I.ok.frames
    unfold Around.over
    show pushEnvs (loopC elt tg iter ifs scope gpos it ge).envs (pushEnvs (envsOf (([] : List Frame).map Frame.where_)) X.A.in1.in1.frames) = _
    rw [e]
    subst hge
    rfl
  have hR2 : Room k (X.A.in1.in1.over (loopC elt tg iter ifs scope gpos it ge) []) := ⟨hA2, by
    have := hroom.dp
    show X.A.depth + 1 + 3 * k + 5 < _
    omega, by
    have := hroom.un
    show X.A.units + 1 + 1 + 3 + 16 * k + 200 < _
    omega⟩
  generalize hAA : X.A.in1.in1.over (loopC elt tg iter ifs scope gpos it ge) [] = A2 at *
  have I5 := mk A2 hA2 (by rw [hF2])
  have pin5 := I5.pin (a, go) (List.mem_append_right _ (List.mem_singleton.mpr rfl))
  have hl : (wipe σ (own.map (·.2))).length = σ.length := wipe_length _ _
  have Pg := pg A2 s4 H3 s4.heap.objs.size code fp
  have Pt := pt A2 s4 H3 s4.heap.objs.size code fp hR2
  have Pe := pe A2 s4 H3 s4.heap.objs.size code fp hR2
  rw [hge] at Pg Pt Pe
  have hroomA : X.A.depth < recursionLimit := by have := hroom.dp; omega
  have giI : s5.heap.IsGen a gn := hgo _ pin5.1
  -- the list of the sum
  have loc : ge.locals = s4.heap.objs.size := by subst hge; rfl
  have s45 : s4.heap.objs.size < s5.heap.objs.size := by
    obtain ⟨m', hn, _⟩ := I5.loc
    have := hn.lt
    rw [show (gCx X A2 s4 H3 ge fp).env.locals = s4.heap.objs.size from loc] at this
    exact this
  show wpAny _ _ (call (.builtin "sum") [.ref a]) _ _ _
  refine call_function_tree F.kind_sum F.plain_sum F.entry_sum (F.args_sum1 _) ?_
  unfold Builtin.«sum»
  simp only [List.length_cons, List.length_nil]
  rw [if_neg (by decide)]
  refine wpAny_bind (wpAny_of_eq (show Builtin.Builtins.bindParams "sum" ["start"] 0 { } = pure [none] from rfl) ?_)
  refine wpAny_bind (wpAny_pyIter_gen giI ?_)
  refine wpAny_bind (wpAny_mkInt ?_)
  refine wpAny_bind (wpAny_pure ?_)
  simp only [List.forIn_cons, List.forIn_nil]
  refine wpAny_bind (wpAny_bind (wpAny_bind (wpAny_isInstance (T := "int") (b := false) (typeIs_int _ _ _) PySem.sub_int_str ?_)))
  simp only [Bool.false_eq_true, if_false]
  refine wpAny_pure (wpAny_bind (wpAny_bind (wpAny_isInstance (T := "int") (b := false) (typeIs_int _ _ _) PySem.sub_int_bytes ?_)))
  simp only [Bool.false_eq_true, if_false]
  refine wpAny_pure (wpAny_bind (wpAny_bind (wpAny_isInstance (T := "int") (b := false) (typeIs_int _ _ _) PySem.sub_int_bytearray ?_)))
  simp only [Bool.false_eq_true, if_false]
  refine wpAny_pure (wpAny_pure ?_)
  refine wpAny_bind (wpAny_newObj_type ?_)
  refine wpAny_pure ⟨plainId_quiet F.plain_sum_loop _, ?_⟩
  have hSa : s5.heap.objs.size ≠ a := Nat.ne_of_gt (Heap.lt_size pin5.1)
  have hSc : s5.heap.objs.size ≠ cStatics := by
    obtain ⟨mc, hns, _⟩ := I5.nolimit
    exact Nat.ne_of_gt hns.lt
  have hSfp : ∀ b ∈ fp, s5.heap.objs.size ≠ b := fun b hb => by
    obtain ⟨o, e, _⟩ := Tu.obj _ _ st5 b hb
    exact Nat.ne_of_gt (Heap.lt_size e)
  have ap : (gCx X A2 s4 H3 ge fp).s_0.heap.objs.size ≤ s5.heap.objs.size ∧ s5.heap.objs.size ≠ (gCx X A2 s4 H3 ge fp).env.locals ∧ ∀ x c, (gCx X A2 s4 H3 ge fp).env.cells.lookup x = some c → c ≠ s5.heap.objs.size :=
    ⟨Nat.le_of_lt s45, by rw [show (gCx X A2 s4 H3 ge fp).env.locals = s4.heap.objs.size from loc]; exact Nat.ne_of_gt s45, fun x c e => by
      obtain ⟨v, z⟩ := I5.cell x c e
      exact Nat.ne_of_lt z.lt⟩
  have keep6 : ∀ b o, s5.heap.get? b = some o → (s5.heap.push { cls := .type "list", data := .seq #[.int 0 s5.toks] }).get? b = some o := fun b o e => Heap.get?_push_of_some _ e
  have hS6 : (s5.heap.push { cls := .type "list", data := .seq #[.int 0 s5.toks] }).get? s5.heap.objs.size = some (sO 0 s5.toks 0) := Heap.get?_push_size _ rfl
  have run := consumeS (X := gCx X A2 s4 H3 ge fp) (a := a) (S := s5.heap.objs.size) (go := go) (gn := gn) (Q := Q) (A := X.A) (R := fun r s' => match r with | .ok (.ret v) => ∃ x H'', Inv X pins σ H'' s' ∧ RelV x v ∧ Q x H'' | .ok _ => False | .error e => X.xe e s') hroom.hd hroomA hSa hSc
    (fun acc t c σ' H' s' I6 q6 => ⟨.int acc, H', I4.call' (ch := fp) I6.os I6.base I6.hok I6.bare fun b hb => ⟨(hfp b hb).1.2.2.2.1, (hfp b hb).1.2.1, (hfp b hb).1.2.2.2.2.1, (hfp b hb).1.2.2.2.2.2⟩, ⟨t, rfl⟩, q6⟩)
    (m + 1) { s5 with heap := s5.heap.push { cls := .type "list", data := .seq #[.int 0 s5.toks] }, toks := s5.toks + 1 } 0 s5.toks 0 0 (.inl rfl) hS6 (hgo _ (keep6 _ _ pin5.1)) (I5.nolimit.keeps keep6)
    ⟨_, hfr, rfl, ?_⟩
  · exact codeAny_mono run fun r s' hq => by
      cases r with
      | error e => exact hq
      | ok fl => cases fl <;> exact hq
  · have I6 : Inv (gCx X A2 s4 H3 ge fp) [(a, go)] (wipe σ (own.map fun x : Str × Nat => x.2)) H3 ({ s5 with heap := s5.heap.push { cls := .type "list", data := .seq #[.int 0 s5.toks] }, toks := s5.toks + 1 }.setGen gn .running) :=
      inv_more I5 rfl keep6 (allBare_setGen (s := { s5 with heap := s5.heap.push { cls := .type "list", data := .seq #[.int 0 s5.toks] }, toks := s5.toks + 1 }) bare5 rfl)
    have nS : H3 s5.heap.objs.size = none := I5.hok.fresh (Nat.le_refl _)
    refine seg_guStart (X := gCx X A2 s4 H3 ge fp) (S := s5.heap.objs.size) (vs := own.map fun x : Str × Nat => x.2) (by rw [← hAA]) rfl rfl rfl (by subst hge; exact S.co) hgo Tu (fun b hb => hb) hafp hSfp (Ne.symm hSa) ap Pg Pt Pe (fun σ' h => ⟨by rw [← wipe_length σ' (own.map (·.2)), h], fun j v e => by
      rw [← h] at e
      exact (wipe_some e).1⟩) turn (Nat.lt_succ_self m) w0 (acc := 0) (t := s5.toks) (c := 0) hS6 (I6.pins_of fun p hp => ?_) (Tu.keep _ _ _ st5 fun b _ o e => keep6 b o e) fun b hb => (hfp b hb).1.1
    rcases List.mem_cons.mp hp with hp | hp
    · rw [hp]
      exact I6.pin (a, go) (List.mem_append_right _ (List.mem_singleton.mpr rfl))
    · rw [List.mem_singleton.mp hp]
      refine ⟨hS6, nS, ap.2.1, fun z => ?_, fun v z => by cases z⟩
      obtain ⟨_, o, ho, _⟩ := I4.stack.mem z
      have := Heap.lt_size ho
      have this : s5.heap.objs.size < s4.heap.objs.size := this
      omega
end
end GU

namespace DW2
open PySem PySem.Spec PyProof.Rows L2
abbrev dcx (kx vx t0 i0 t1 i1 : Expr) (ifs0 ifs1 : List Expr) (scope : Scope) (pos : Pos) : Expr := .DictComp kx vx [⟨t0, i0, ifs0, 0⟩, ⟨t1, i1, ifs1, 0⟩] scope pos
theorem turn_out (kx vx t0 i0 t1 i1 : Expr) (ifs0 ifs1 : List Expr) (scope : Scope) (pos : Pos) (it acc : Value) (env : Env) :
    compTurn (dcx kx vx t0 i0 t1 i1 ifs0 ifs1 scope pos) 0 it acc env = (do
      standAt i0.pos
      match ← pyNext it with
      | none => pure (.done .next)
      | some v =>
        letOwnedTupleGo t0 it v
        assign t0 env v
        let mut ok := true
        for c in ifs0 do
          if ok then ok ← isTrue c env (eval c env)
        if ok then
          let x ← eval i1 env
          standAt i1.pos
          let x ← foldedSetIterable i1 env x
          let _ ← runOwn (.compStart (dcx kx vx t0 i0 t1 i1 ifs0 ifs1 scope pos) 1 (← holding [x] (pyIter x)) acc env) env
        again (.compLoop (dcx kx vx t0 i0 t1 i1 ifs0 ifs1 scope pos) 0 it acc env)) := by rfl
theorem turn_in (kx vx t0 i0 t1 i1 : Expr) (ifs0 ifs1 : List Expr) (scope : Scope) (pos : Pos) (it : Value) (D : Addr) (env : Env) :
    compTurn (dcx kx vx t0 i0 t1 i1 ifs0 ifs1 scope pos) 1 it (.ref D) env = (do
      standAt i1.pos
      match ← pyNext it with
      | none => pure (.done .next)
      | some v =>
        letOwnedTupleGo t1 it v
        assign t1 env v
        let mut ok := true
        for c in ifs1 do
          if ok then ok ← isTrue c env (eval c env)
        if ok then
          (do
            let kv ← eval kx env
            let vv ← holding [kv] (eval vx env)
            standAt { kx.pos with endLine := vx.pos.endLine, endCol := vx.pos.endCol }
            holding [kv, vv] (dictSet D kv vv))
        again (.compLoop (dcx kx vx t0 i0 t1 i1 ifs0 ifs1 scope pos) 1 it (.ref D) env)) := by rfl
section
variable {prog : Program} {w : World} {A : Around} {R : Result → Shared → Prop} {s : Shared} {kx vx t0 i0 t1 i1 : Expr} {ifs0 ifs1 : List Expr} {scope : Scope} {pos : Pos} {it acc : Value} {D : Addr} {env : Env}
theorem loop_out (hs : ∀ x, foldedSetIterable i1 env x = pure x) (I : Nat → Shared → Prop)
    (turn : ∀ n s, I n s → wpAny (model prog w) A (pyNext it) (fun r s₁ => match r with
      | none => R (.ok .next) s₁
      | some v => wpAny (model prog w) A (letOwnedTupleGo t0 it v) (fun _ s₁' => wpAny (model prog w) A (assign t0 env v) (fun _ s₂ =>
          wpAny (model prog w) A (forIn ifs0 true fun c r => if r = true then do let ok ← isTrue c env (eval c env); pure (ForInStep.yield ok) else pure (ForInStep.yield r)) (fun ok s₃ =>
            if ok = true then wpAny (model prog w) A (eval i1 env) (fun x s₄ => wpAny (model prog w) A (pyIter x) (fun it1 s₅ =>
              codeAny (model prog w) A (.compStart (dcx kx vx t0 i0 t1 i1 ifs0 ifs1 scope pos) 1 it1 acc env) (fun r s' => match r with
                | .ok _ => ∃ m, m < n ∧ I m s'
                | .error _ => False) s₅) (notedBy (model prog w) A env fun e s' => R (.error e) s') s₄) (notedBy (model prog w) A env fun e s' => R (.error e) s') s₃
            else ∃ m, m < n ∧ I m s₃) (notedBy (model prog w) A env fun e s' => R (.error e) s') s₂) (notedBy (model prog w) A env fun e s' => R (.error e) s') s₁') (notedBy (model prog w) A env fun e s' => R (.error e) s') s₁) (notedBy (model prog w) A env fun e s' => R (.error e) s') s)
    (n : Nat) (h : I n s) :
    codeAny (model prog w) A (.compLoop (dcx kx vx t0 i0 t1 i1 ifs0 ifs1 scope pos) 0 it acc env) R s := by
  refine codeAny_loop rfl I (fun n s hI => ?_) n h
  show wpAny _ A ((compTurn (dcx kx vx t0 i0 t1 i1 ifs0 ifs1 scope pos) 0 it acc env).onRaise (fun x => do noteFrame x env; theTreesLotGoes x)) _ _ s
  refine wpAny_noted ?_
  rw [turn_out]
  refine wpAny_bind (wpAny_standAt (wpAny_bind (wpAny_mono (turn n s hI) (fun r s₁ h₁ => ?_) fun _ _ h' => h')))
  cases r with
  | none => exact wpAny_pure h₁
  | some v =>
    refine wpAny_bind (wpAny_mono h₁ (fun _ s₁' h₁' => ?_) fun _ _ h' => h')
    refine wpAny_bind (wpAny_mono h₁' (fun _ s₂ h₂ => wpAny_bind (wpAny_mono h₂ (fun ok s₃ h₃ => ?_) fun _ _ h' => h')) fun _ _ h' => h')
    cases ok with
    | false => exact wpAny_pure ⟨rfl, h₃⟩
    | true =>
      refine wpAny_bind (wpAny_mono h₃ (fun x s₄ h₄ => ?_) fun _ _ h' => h')
      refine wpAny_bind (wpAny_standAt (wpAny_bind (wpAny_of_eq (hs x) (wpAny_bind (wpAny_holding (wpAny_mono h₄ (fun it1 s₅ h₅ => ?_) fun _ _ h' => h'))))))
      refine wpAny_bind (wpAny_runOwn ?_)
      rw [Around.mark_none]
      refine codeAny_mono h₅ fun r s' hr => ?_
      cases r with
      | ok f =>
        first
          | exact wpAny_pure ⟨rfl, hr⟩
          | exact wpAny_bind (wpAny_pure (wpAny_pure ⟨rfl, hr⟩))
      | error e => exact hr.elim
theorem loop_in (I : Nat → Shared → Prop)
    (turn : ∀ n s, I n s → wpAny (model prog w) A (pyNext it) (fun r s₁ => match r with
      | none => R (.ok .next) s₁
      | some v => wpAny (model prog w) A (letOwnedTupleGo t1 it v) (fun _ s₁' => wpAny (model prog w) A (assign t1 env v) (fun _ s₂ =>
          wpAny (model prog w) A (forIn ifs1 true fun c r => if r = true then do let ok ← isTrue c env (eval c env); pure (ForInStep.yield ok) else pure (ForInStep.yield r)) (fun ok s₃ =>
            if ok = true then wpAny (model prog w) A (eval kx env) (fun kv s₄ => wpAny (model prog w) A (eval vx env) (fun vv s₅ =>
              wpAny (model prog w) A (dictSet D kv vv) (fun _ s₆ => ∃ m, m < n ∧ I m s₆) (notedBy (model prog w) A env fun e s' => R (.error e) s') s₅) (notedBy (model prog w) A env fun e s' => R (.error e) s') s₄) (notedBy (model prog w) A env fun e s' => R (.error e) s') s₃
            else ∃ m, m < n ∧ I m s₃) (notedBy (model prog w) A env fun e s' => R (.error e) s') s₂) (notedBy (model prog w) A env fun e s' => R (.error e) s') s₁') (notedBy (model prog w) A env fun e s' => R (.error e) s') s₁) (notedBy (model prog w) A env fun e s' => R (.error e) s') s)
    (n : Nat) (h : I n s) :
    codeAny (model prog w) A (.compLoop (dcx kx vx t0 i0 t1 i1 ifs0 ifs1 scope pos) 1 it (.ref D) env) R s := by
  refine codeAny_loop rfl I (fun n s hI => ?_) n h
  show wpAny _ A ((compTurn (dcx kx vx t0 i0 t1 i1 ifs0 ifs1 scope pos) 1 it (.ref D) env).onRaise (fun x => do noteFrame x env; theTreesLotGoes x)) _ _ s
  refine wpAny_noted ?_
  rw [turn_in]
  refine wpAny_bind (wpAny_standAt (wpAny_bind (wpAny_mono (turn n s hI) (fun r s₁ h₁ => ?_) fun _ _ h' => h')))
  cases r with
  | none => exact wpAny_pure h₁
  | some v =>
    refine wpAny_bind (wpAny_mono h₁ (fun _ s₁' h₁' => ?_) fun _ _ h' => h')
    refine wpAny_bind (wpAny_mono h₁' (fun _ s₂ h₂ => wpAny_bind (wpAny_mono h₂ (fun ok s₃ h₃ => ?_) fun _ _ h' => h')) fun _ _ h' => h')
    cases ok with
    | false => exact wpAny_pure ⟨rfl, h₃⟩
    | true =>
      exact wpAny_bind (wpAny_bind (wpAny_mono h₃ (fun kv s₄ h₄ => wpAny_bind (wpAny_holding (wpAny_mono h₄ (fun vv s₅ h₅ => wpAny_bind (wpAny_standAt (wpAny_holding (wpAny_mono h₅ (fun _ s₆ h₆ => wpAny_pure ⟨rfl, h₆⟩) fun _ _ h' => h')))) fun _ _ h' => h'))) fun _ _ h' => h'))
theorem start1 (h0 : codeAny (model prog w) A (.compLoop (dcx kx vx t0 i0 t1 i1 ifs0 ifs1 scope pos) 1 it acc env) R s)
    (h : wpAny (model prog w) A (pyIter it) (fun it' s' => codeAny (model prog w) A (.compLoop (dcx kx vx t0 i0 t1 i1 ifs0 ifs1 scope pos) 1 it' acc env) R s')
      (notedBy (model prog w) A env fun x s' => R (.error x) s') s) :
    codeAny (model prog w) A (.compStart (dcx kx vx t0 i0 t1 i1 ifs0 ifs1 scope pos) 1 it acc env) R s := by
  refine codeAny_of_tree ?_
  show wpAny _ _ ((compStart (dcx kx vx t0 i0 t1 i1 ifs0 ifs1 scope pos) 1 it acc env).onRaise (fun x => do noteFrame x env; standAt theWindowsPlace)) _ _ s
  refine wpAny_notedAt ?_
  unfold compStart
  show wpAny _ _ (ask >>= _) _ _ s
  refine wpAny_bind (wpAny_askSetting (wpAny_ite ?_))
  split
  · first
      | exact wpAny_bind (wpAny_pure (wpAny_pure (And.intro rfl h0)))
      | exact wpAny_pure (And.intro rfl h0)
  · first
      | exact wpAny_bind (wpAny_rule (wpAny_bind (wpAny_standAt (wpAny_bind (wpAny_mono h (fun it' s' h' => wpAny_pure (And.intro rfl h')) fun _ _ x => x)))))
      | (refine wpAny_bind (wpAny_rule ?_); show wpAny _ _ (standAt i1.pos >>= _) _ _ s; exact wpAny_bind (wpAny_standAt (wpAny_bind (wpAny_mono h (fun it' s' h' => wpAny_pure (And.intro rfl h')) fun _ _ x => x))))
end
section
variable {X : Cx}
def tDc2 (wi : TI) (g : TG) (tt : TT) (wi1 : TI) (g1 : TG) (tt1 : TT) (tk tv : TE) (vs vs1 : List Nat) : TE := fun σ H Q => wi σ H fun J H1 => ∀ D, H1 D = none → ∃ W : Nat → Nat → Hp → Prop, (∃ m, W 0 m (upd H1 D (.dK []))) ∧ ∀ i m H, W i m H →
  (J.stop i H ∧ Q (.ref D) H) ∨ (J.go i H ∧ ∃ Nx : Hp → Prop, (∀ H', Nx H' → ∃ m', m' < m ∧ W (i + 1) m' H') ∧ ∀ x H', J.yld i H x H' → g x (wipe σ vs) H' fun σ2 H2 => wipe σ2 vs = wipe σ vs ∧ tt σ2 H2 fun b H3 =>
    if b = true then wi1 σ2 H3 fun J1 H4 => ∃ W1 : Nat → Nat → Hp → Prop, (∃ m, W1 0 m H4) ∧ ∀ j k H, W1 j k H →
      (J1.stop j H ∧ Nx H) ∨ (J1.go j H ∧ ∃ Nx1 : Hp → Prop, (∀ H', Nx1 H' → ∃ k', k' < k ∧ W1 (j + 1) k' H') ∧ ∀ x H', J1.yld j H x H' → g1 x (wipe σ2 vs1) H' fun σ3 H5 => wipe σ3 vs1 = wipe σ2 vs1 ∧ tt1 σ3 H5 fun b H6 =>
        if b = true then tk σ3 H6 fun y H7 => tv σ3 H7 fun z H8 => ∃ kvs k, y = kV k ∧ H8 D = some (.dK kvs) ∧ kvs.length < sizeLine ∧ Nx1 (upd H8 D (.dK (putK kvs k z))) else Nx1 H6)
    else Nx H3)
theorem dc2_core {pins : List (Addr × Obj)} {s : Shared} {σ : L2.St} {H : Hp} {Q : VK} {kx vx tg iter tg1 iter1 : Expr} {ifs ifs1 : List Expr} {scope : Scope} {own : List (Str × Nat)} {vs1 : List Nat} {pos pos' : Pos} {wi wi1 : TI} {g g1 : TG} {tt tt1 : TT} {tk tv : TE} {use : Option (Value → Sem Unit)} {Qf : Value → Shared → Prop}
    (hc : X.calm = true) (hN : X.N.Nodup) (I : Inv X pins σ H s) (hi : PI X tg iter wi) (ok : BlkOk X.N X.env.scope scope own) (hv : ∀ i ∈ vs1, i ∈ own.map (·.2))
    (hg : ∀ (s : Shared) (H : Hp) (C : Addr) (cl : List (Str × Addr)) (fp : List Addr), PG (X.blk s H scope (compEnvC scope cl C X.env) fp) tg g) (ht : ∀ (s : Shared) (H : Hp) (C : Addr) (cl : List (Str × Addr)) (fp : List Addr), PTs (X.blk s H scope (compEnvC scope cl C X.env) fp) ifs tt)
    (hk : ∀ (s : Shared) (H : Hp) (C : Addr) (cl : List (Str × Addr)) (fp : List Addr), PE (X.blk s H scope (compEnvC scope cl C X.env) fp) kx tk)
    (he : ∀ (s : Shared) (H : Hp) (C : Addr) (cl : List (Str × Addr)) (fp : List Addr), PE (X.blk s H scope (compEnvC scope cl C X.env) fp) vx tv) (hs : ∀ x, foldedSetIterable iter X.env x = pure x)
    (hi1 : ∀ (s : Shared) (H : Hp) (C : Addr) (cl : List (Str × Addr)) (fp : List Addr), PI (X.blk s H scope (compEnvC scope cl C X.env) fp) tg1 iter1 wi1)
    (hg1 : ∀ (s : Shared) (H : Hp) (C : Addr) (cl : List (Str × Addr)) (fp : List Addr), PG (X.blk s H scope (compEnvC scope cl C X.env) fp) tg1 g1)
    (ht1 : ∀ (s : Shared) (H : Hp) (C : Addr) (cl : List (Str × Addr)) (fp : List Addr), PTs (X.blk s H scope (compEnvC scope cl C X.env) fp) ifs1 tt1)
    (hs1 : ∀ env x, foldedSetIterable iter1 env x = pure x)
    (h : tDc2 wi g tt wi1 g1 tt1 tk tv (own.map (·.2)) vs1 σ H Q)
    (hRR : ∀ D C s' m H', Inv X pins σ H' s' → Q (.ref D) H' → s'.heap.Ns C m → FpOk X pins H' C → compPost (model X.prog X.w) X.A X.xe use Qf (.ref D) C (.ok .next) s') :
    wpAny (model X.prog X.w) X.A (comprehension (dcx kx vx tg iter tg1 iter1 ifs ifs1 scope pos) scope X.env pos' newDict false (eval iter X.env) use) Qf X.xe s := by
  have hfree : ∀ y ∈ scope.names, y.2 = .free → ∃ c, X.env.cells.lookup y.1 = some c := fun y hy e => by
    rcases ok.free y hy e with k | k
    · exact I.ok.has _ (.inl k)
    · exact I.ok.has _ (.inr k)
  refine wpAny_comprehension_free (use := use) rfl hs (closure_ok hfree) ok.kind (fun y hy e => by rw [ok.uniq y hy, e])
    (thn (hi.run pins s σ H _ I h) fun xv s1 hx => thn hx fun itv s2 h2 => ?_)
  obtain ⟨it, fp, tn, J, H2, e, I2, T, st2, f2, q⟩ := h2
  subst e
  refine wpAny_newObj_type (newEnv_comp ?_)
  generalize hD : s2.heap.objs.size = D
  have hDn : H2 D = none := I2.hok.fresh (Nat.le_of_eq hD)
  obtain ⟨W, ⟨m0, w0⟩, turn⟩ := q D hDn
  generalize hs3 : ({ s2 with heap := s2.heap.push { cls := .type "dict", data := .dict #[] } } : Shared) = s3
  have I3 : Inv X pins σ (upd H2 D (.dK [])) s3 := by
    rw [← hs3]
    refine I2.laid (t' := s2.toks) (fun b o e => Heap.get?_push_of_some _ e) (Nat.le_of_eq hD) ?_
    rw [← hD]
    exact dk_empty s2.heap I2.big
  have h3 : s3.heap = s2.heap.push { cls := .type "dict", data := .dict #[] } := by rw [← hs3]
  have sz : ∀ b ∈ fp, b < s2.heap.objs.size := fun b hb => by
    obtain ⟨o, e, _⟩ := T.obj _ _ st2 b hb
    exact Heap.lt_size e
  have f3 : ∀ b ∈ fp, FpOk X pins (upd H2 D (.dK [])) b ∧ b < s3.heap.objs.size := fun b hb => by
    have hlt := sz b hb
    refine ⟨⟨?_, (f2 b hb).2⟩, by rw [h3, Heap.size_push]; exact Nat.lt_succ_of_lt hlt⟩
    rw [upd_ne (by rw [← hD]; exact Nat.ne_of_lt hlt)]
    exact (f2 b hb).1
  have st3 : tn 0 s3.heap := T.keep _ _ _ st2 fun b _ o e => by rw [h3]; exact Heap.get?_push_of_some _ e
  have I4 := block_start I3 ok hN f3
  obtain ⟨cl, hcl⟩ : ∃ cl, cellsFrom (s3.heap.objs.size + 1) scope.names (cloFrom X.env.cells scope.names []) = cl := ⟨_, rfl⟩
  have pg := hg s3 (upd H2 D (.dK [])) s3.heap.objs.size cl fp
  have pt := ht s3 (upd H2 D (.dK [])) s3.heap.objs.size cl fp
  have pk := hk s3 (upd H2 D (.dK [])) s3.heap.objs.size cl fp
  have pe := he s3 (upd H2 D (.dK [])) s3.heap.objs.size cl fp
  have pi1 := hi1 s3 (upd H2 D (.dK [])) s3.heap.objs.size cl fp
  have pg1 := hg1 s3 (upd H2 D (.dK [])) s3.heap.objs.size cl fp
  have pt1 := ht1 s3 (upd H2 D (.dK [])) s3.heap.objs.size cl fp
  rw [← hcl] at pg pt pk pe pi1 pg1 pt1
  show codeAny _ _ (.compStart (dcx kx vx tg iter tg1 iter1 ifs ifs1 scope pos) 0 (.ref it) (.ref D) (compEnvC scope (cellsFrom (s3.heap.objs.size + 1) scope.names (cloFrom X.env.cells scope.names [])) s3.heap.objs.size X.env)) (compPost (model X.prog X.w) X.A X.xe use Qf (.ref D) s3.heap.objs.size) { s3 with heap := pushCells (s3.heap.push { cls := .type "dict", data := .dict #[] }) scope.names }
  have nfp : ∀ b ∈ fp, (upd H2 D (.dK [])) b = none := fun b hb => (f3 b hb).1.1
  generalize hce : compEnvC scope (cellsFrom (s3.heap.objs.size + 1) scope.names (cloFrom X.env.cells scope.names [])) s3.heap.objs.size X.env = ce at I4 pg pt pk pe pi1 pg1 pt1 ⊢
  have cL : ce.locals = s3.heap.objs.size := by subst hce; rfl
  generalize hH3 : upd H2 D (.dK []) = H3 at I3 I4 pg pt pk pe pi1 pg1 pt1 w0 nfp f3
  generalize hs4 : ({ s3 with heap := pushCells (s3.heap.push { cls := .type "dict", data := .dict #[] }) scope.names } : Shared) = s4 at I4 ⊢
  have st4 : tn 0 s4.heap := T.keep _ _ _ st3 fun b _ o e => by rw [← hs4]; exact pushCells_keeps _ _ _ _ (Heap.get?_push_of_some _ e)
  have stat : ∀ {σ' : L2.St} {H' : Hp} {s' : Shared}, Inv (X.blk s3 H3 scope ce fp) [] σ' H' s' → (∀ b ∈ fp, H' b = none) → ∀ b ∈ fp, FpOk (X.blk s3 H3 scope ce fp) [] H' b := fun {σ' H' s'} I' hn b hb =>
    ⟨hn b hb, (I'.ok.exf b hb).1, I'.ok.exfs b hb, .inl hb, fun x c e => (I'.ok.exf b hb).2 x c e, fun p hp => absurd (show p ∈ ([] : List (Addr × Obj)) ++ [] from hp) (by simp)⟩
  have loop : codeAny (model X.prog X.w) X.A (.compLoop (dcx kx vx tg iter tg1 iter1 ifs ifs1 scope pos) 0 (.ref it) (.ref D) ce) (compPost (model X.prog X.w) X.A X.xe use Qf (.ref D) s3.heap.objs.size) s4 := by
    refine loop_out (hs1 ce) (fun n s' => ∃ i H', Inv (X.blk s3 H3 scope ce fp) [] (wipe σ (own.map (·.2))) H' s' ∧ tn i s'.heap ∧ (∀ b ∈ fp, H' b = none) ∧ W i n H') ?_ m0 ⟨0, H3, I4, st4, nfp, w0⟩
    rintro n s5 ⟨i, H5, I5, st5, n5, w5⟩
    rcases turn i n H5 w5 with ⟨stop, qq⟩ | ⟨go, Nx, hNx, step⟩
    · refine thnF (T.done (X.blk s3 H3 scope ce fp) rfl rfl rfl hc i [] s5 _ H5 (fun _ _ => False) I5 (stat I5 n5) st5 stop) fun r s6 ⟨hr, I6⟩ => ?_
      subst hr
      have I7 : Inv X pins σ H5 s6 := I3.call' (ch := fp) I6.os I6.base I6.hok I6.bare fun b hb => ⟨(f3 b hb).1.2.2.2.1, (f3 b hb).1.2.1, (f3 b hb).1.2.2.2.2.1, (f3 b hb).1.2.2.2.2.2⟩
      have nC : H5 s3.heap.objs.size = none := by
        have z : H5 ce.locals = none := I6.free
        rw [cL] at z
        exact z
      obtain ⟨m, hn, _⟩ := I6.loc
      have hn : s6.heap.Ns ce.locals m := hn
      rw [cL] at hn
      exact hRR D s3.heap.objs.size s6 m H5 I7 qq hn (I3.fpOk (Nat.le_refl _) nC)
    · refine thnF (T.item (X.blk s3 H3 scope ce fp) rfl rfl rfl hc i [] s5 _ H5 (fun _ _ => False) I5 (stat I5 n5) st5 go) fun r s6 ⟨u, hr, h6⟩ => ?_
      subst hr
      refine thnF h6 fun _ s7 ⟨x, H7, I7, r7, y7, st7, n7⟩ => ?_
      have I7' := I7.pinned (stat I7 n7) (T.obj _ _ st7)
      refine thnF (pg.run _ s7 _ H7 x u _ I7' r7 (step x H7 y7)) fun _ s8 ⟨σ8, H8, I8, hw8, q8⟩ => ?_
      refine thnF (pt.run _ s8 σ8 H8 _ I8 q8) fun b s9 ⟨H9, I9, q9⟩ => ?_
      have fin : ∀ {σ9 : L2.St} {s' : Shared} {H' : Hp}, Inv (X.blk s3 H3 scope ce fp) ([] ++ pinsAt fp s7.heap) σ9 H' s' → (wipe σ (own.map (·.2))).length = σ9.length → (∀ (j : Nat) v, (wipe σ (own.map (·.2)))[j]? = some (some v) → σ9[j]? = some (some v)) → Nx H' →
          ∃ m, m < n ∧ ∃ i H', Inv (X.blk s3 H3 scope ce fp) [] (wipe σ (own.map (·.2))) H' s' ∧ tn i s'.heap ∧ (∀ b ∈ fp, H' b = none) ∧ W i m H' := fun {σ9 s' H'} I' hl hk nx => by
        obtain ⟨m', hm, w'⟩ := hNx H' nx
        have pin' : ∀ b ∈ fp, ∀ o, s7.heap.get? b = some o → s'.heap.get? b = some o ∧ H' b = none := fun b hb o e =>
          let z := I'.pin (b, o) (List.mem_append_right _ (List.mem_append_right _ (mem_pinsAt hb e)))
          ⟨z.1, z.2.1⟩
        refine ⟨m', hm, i + 1, H', (I'.unpinned (pins := [])).weak hl hk, T.keep _ _ _ st7 fun b hb o e => (pin' b hb o e).1, fun b hb => ?_, w'⟩
        obtain ⟨o, e, _⟩ := T.obj _ _ st7 b hb
        exact (pin' b hb o e).2
      have hl8 : (wipe σ (own.map (·.2))).length = σ8.length := by rw [← hw8, wipe_length]
      have hk8 : ∀ (j : Nat) v, (wipe σ (own.map (·.2)))[j]? = some (some v) → σ8[j]? = some (some v) := fun j v e => by
        rw [← hw8] at e
        exact (wipe_some e).1
      have hk9 : ∀ (j : Nat) v, (wipe σ (own.map (·.2)))[j]? = some (some v) → (wipe σ8 vs1)[j]? = some (some v) := fun j v e => by
        rw [← hw8] at e
        obtain ⟨e1, e2⟩ := wipe_some e
        rw [wipe_out fun z => e2 (hv j z)]
        exact e1
      cases b with
      | false =>
        simp only [Bool.false_eq_true, if_false] at q9 ⊢
        exact fin I9 hl8 hk8 q9
      | true =>
        simp only [if_true] at q9 ⊢
        refine thnF (pi1.run _ s9 σ8 H9 _ I9 q9) fun xv s10 hx => thnF hx fun itv s11 h11 => ?_
        obtain ⟨it1, fp1, tn1, J1, H11, e1, I11, T1, st11, f11, W1, ⟨m1, w1⟩, turn1⟩ := h11
        subst e1
        have stat1 : ∀ {H' : Hp}, (∀ b ∈ fp1, H' b = none) → ∀ b ∈ fp1, FpOk (X.blk s3 H3 scope ce fp) ([] ++ pinsAt fp s7.heap) H' b := fun hn b hb => ⟨hn b hb, (f11 b hb).2⟩
        have loop1 : codeAny (model X.prog X.w) X.A (.compLoop (dcx kx vx tg iter tg1 iter1 ifs ifs1 scope pos) 1 (.ref it1) (.ref D) ce)
            (fun r s' => match r with
              | .ok _ => ∃ m, m < n ∧ ∃ i H', Inv (X.blk s3 H3 scope ce fp) [] (wipe σ (own.map (·.2))) H' s' ∧ tn i s'.heap ∧ (∀ b ∈ fp, H' b = none) ∧ W i m H'
              | .error _ => False) s11 := by
          refine loop_in (fun k s' => ∃ j H', Inv (X.blk s3 H3 scope ce fp) ([] ++ pinsAt fp s7.heap) (wipe σ8 vs1) H' s' ∧ tn1 j s'.heap ∧ (∀ b ∈ fp1, H' b = none) ∧ W1 j k H') ?_ m1 ⟨0, H11, I11.weak (wipe_length _ _) (fun j v e => (wipe_some e).1), st11, fun b hb => (f11 b hb).1, w1⟩
          rintro k s12 ⟨j, H12, I12, st12, n12, w12⟩
          rcases turn1 j k H12 w12 with ⟨stop1, nx1⟩ | ⟨go1, Nx1, hNx1, step1⟩
          · refine thnF (T1.done (X.blk s3 H3 scope ce fp) rfl rfl rfl hc j _ s12 (wipe σ8 vs1) H12 (fun _ _ => False) I12 (stat1 n12) st12 stop1) fun r s13 ⟨hr, I13⟩ => ?_
            subst hr
            exact fin I13 (hl8.trans (wipe_length σ8 vs1).symm) hk9 nx1
          · refine thnF (T1.item (X.blk s3 H3 scope ce fp) rfl rfl rfl hc j _ s12 (wipe σ8 vs1) H12 (fun _ _ => False) I12 (stat1 n12) st12 go1) fun r s13 ⟨u1, hr, h13⟩ => ?_
            subst hr
            refine thnF h13 fun _ s14 ⟨x1, H14, I14, r14, y14, st14, n14⟩ => ?_
            have I14' := I14.pinned (stat1 n14) (T1.obj _ _ st14)
            refine thnF (pg1.run _ s14 (wipe σ8 vs1) H14 x1 u1 _ I14' r14 (step1 x1 H14 y14)) fun _ s15 ⟨σ15, H15, I15, hw15, q15⟩ => ?_
            refine thnF (pt1.run _ s15 σ15 H15 _ I15 q15) fun b1 s16 ⟨H16, I16, q16⟩ => ?_
            have fin1 : ∀ {s' : Shared} {H' : Hp}, Inv (X.blk s3 H3 scope ce fp) (([] ++ pinsAt fp s7.heap) ++ pinsAt fp1 s14.heap) σ15 H' s' → Nx1 H' → ∃ m, m < k ∧ ∃ j H', Inv (X.blk s3 H3 scope ce fp) ([] ++ pinsAt fp s7.heap) (wipe σ8 vs1) H' s' ∧ tn1 j s'.heap ∧ (∀ b ∈ fp1, H' b = none) ∧ W1 j m H' := fun {s' H'} I' nx => by
              obtain ⟨m', hm, w'⟩ := hNx1 H' nx
              have pin' : ∀ b ∈ fp1, ∀ o, s14.heap.get? b = some o → s'.heap.get? b = some o ∧ H' b = none := fun b hb o e =>
                let z := I'.pin (b, o) (List.mem_append_right _ (List.mem_append_right _ (mem_pinsAt hb e)))
                ⟨z.1, z.2.1⟩
              refine ⟨m', hm, j + 1, H', I'.unpinned.weak (by rw [← hw15, wipe_length]) (fun j v e => by rw [← hw15] at e; exact (wipe_some e).1), T1.keep _ _ _ st14 fun b hb o e => (pin' b hb o e).1, fun b hb => ?_, w'⟩
              obtain ⟨o, e, _⟩ := T1.obj _ _ st14 b hb
              exact (pin' b hb o e).2
            cases b1 with
            | false =>
              simp only [Bool.false_eq_true, if_false] at q16 ⊢
              exact fin1 I16 q16
            | true =>
              simp only [if_true] at q16 ⊢
              refine thnF (pk.run _ s16 σ15 H16 _ I16 q16) fun z s17 ⟨yk, H17, I17, r17, q17⟩ => ?_
              refine thnF (pe.run _ s17 σ15 H17 _ I17 q17) fun z2 s18 ⟨yv, H18, I18, r18, kvs, kk, ek, hD18, hz18, nx⟩ => ?_
              subst ek
              exact d_dictSet (X := X.blk s3 H3 scope ce fp) I18 hD18 hz18 r17 r18 fun s19 I19 => fin1 I19 nx
        exact start1 loop1 (T1.self X.A 0 _ _ _ st11 loop1)
  exact codeAny_compStart_dict loop (T.self X.A 0 _ _ _ st4 loop)
theorem pe_dc2 {kx vx tg iter tg1 iter1 : Expr} {ifs ifs1 : List Expr} {scope : Scope} {own : List (Str × Nat)} {vs1 : List Nat} {pos : Pos} {wi wi1 : TI} {g g1 : TG} {tt tt1 : TT} {tk tv : TE} (hc : X.calm = true) (hN : X.N.Nodup) (hi : PI X tg iter wi) (ok : BlkOk X.N X.env.scope scope own) (hv : ∀ i ∈ vs1, i ∈ own.map (·.2))
    (hg : ∀ (s : Shared) (H : Hp) (C : Addr) (cl : List (Str × Addr)) (fp : List Addr), PG (X.blk s H scope (compEnvC scope cl C X.env) fp) tg g) (ht : ∀ (s : Shared) (H : Hp) (C : Addr) (cl : List (Str × Addr)) (fp : List Addr), PTs (X.blk s H scope (compEnvC scope cl C X.env) fp) ifs tt)
    (hk : ∀ (s : Shared) (H : Hp) (C : Addr) (cl : List (Str × Addr)) (fp : List Addr), PE (X.blk s H scope (compEnvC scope cl C X.env) fp) kx tk)
    (he : ∀ (s : Shared) (H : Hp) (C : Addr) (cl : List (Str × Addr)) (fp : List Addr), PE (X.blk s H scope (compEnvC scope cl C X.env) fp) vx tv)
    (hi1 : ∀ (s : Shared) (H : Hp) (C : Addr) (cl : List (Str × Addr)) (fp : List Addr), PI (X.blk s H scope (compEnvC scope cl C X.env) fp) tg1 iter1 wi1)
    (hg1 : ∀ (s : Shared) (H : Hp) (C : Addr) (cl : List (Str × Addr)) (fp : List Addr), PG (X.blk s H scope (compEnvC scope cl C X.env) fp) tg1 g1)
    (ht1 : ∀ (s : Shared) (H : Hp) (C : Addr) (cl : List (Str × Addr)) (fp : List Addr), PTs (X.blk s H scope (compEnvC scope cl C X.env) fp) ifs1 tt1)
    (hs : ∀ x, foldedSetIterable iter X.env x = pure x) (hs1 : ∀ env x, foldedSetIterable iter1 env x = pure x) :
    PE X (dcx kx vx tg iter tg1 iter1 ifs ifs1 scope pos) (tDc2 wi g tt wi1 g1 tt1 tk tv (own.map (·.2)) vs1) := by
  refine ⟨fun pins s σ H Q I h => ?_⟩
  rw [arm_eval_DictComp]
  refine dc2_core hc hN I hi ok hv hg ht hk he hs hi1 hg1 ht1 hs1 h fun D C s' m H' I' q hn f => ⟨m, hn, fun h'' sb => ?_⟩
  obtain ⟨f0, f1, f2, f3, f4, f5⟩ := f
  exact ⟨.ref D, H', I'.turned (t' := s'.toks) (fun b o hb e => (sb.2 b hb).trans e) f0 f1 f3 f4 f5, rfl, q⟩
theorem ps_dc2 {i : Nat} {y : Str} {py spos : Pos} {kx vx tg iter tg1 iter1 : Expr} {ifs ifs1 : List Expr} {scope : Scope} {own : List (Str × Nat)} {vs1 : List Nat} {pos : Pos} {wi wi1 : TI} {g g1 : TG} {tt tt1 : TT} {tk tv : TE} (hy : X.N[i]? = some y) (hyl : X.env.scope.names.lookup y = some .local)
    (hsw : swapsWith (dcx kx vx tg iter tg1 iter1 ifs ifs1 scope pos) (some (.Name y py)) spos.line X.env = pure true) (hc : X.calm = true) (hN : X.N.Nodup) (hi : PI X tg iter wi) (ok : BlkOk X.N X.env.scope scope own) (hv : ∀ i ∈ vs1, i ∈ own.map (·.2))
    (hg : ∀ (s : Shared) (H : Hp) (C : Addr) (cl : List (Str × Addr)) (fp : List Addr), PG (X.blk s H scope (compEnvC scope cl C X.env) fp) tg g) (ht : ∀ (s : Shared) (H : Hp) (C : Addr) (cl : List (Str × Addr)) (fp : List Addr), PTs (X.blk s H scope (compEnvC scope cl C X.env) fp) ifs tt)
    (hk : ∀ (s : Shared) (H : Hp) (C : Addr) (cl : List (Str × Addr)) (fp : List Addr), PE (X.blk s H scope (compEnvC scope cl C X.env) fp) kx tk)
    (he : ∀ (s : Shared) (H : Hp) (C : Addr) (cl : List (Str × Addr)) (fp : List Addr), PE (X.blk s H scope (compEnvC scope cl C X.env) fp) vx tv)
    (hi1 : ∀ (s : Shared) (H : Hp) (C : Addr) (cl : List (Str × Addr)) (fp : List Addr), PI (X.blk s H scope (compEnvC scope cl C X.env) fp) tg1 iter1 wi1)
    (hg1 : ∀ (s : Shared) (H : Hp) (C : Addr) (cl : List (Str × Addr)) (fp : List Addr), PG (X.blk s H scope (compEnvC scope cl C X.env) fp) tg1 g1)
    (ht1 : ∀ (s : Shared) (H : Hp) (C : Addr) (cl : List (Str × Addr)) (fp : List Addr), PTs (X.blk s H scope (compEnvC scope cl C X.env) fp) ifs1 tt1)
    (hs : ∀ x, foldedSetIterable iter X.env x = pure x) (hs1 : ∀ env x, foldedSetIterable iter1 env x = pure x) :
    PS X (.Assign [.Name y py] (dcx kx vx tg iter tg1 iter1 ifs ifs1 scope pos) spos) (tAsg (tDc2 wi g tt wi1 g1 tt1 tk tv (own.map (·.2)) vs1) (gName i)) := by
  refine ⟨fun pins s σ H D I h => ?_⟩
  rw [exec_Assign_Name_used _ _ _ _ hsw]
  refine wpAny_bind (wpAny_standAt (wpAny_bind ?_))
  show wpAny _ X.A (do let _ ← comprehension (dcx kx vx tg iter tg1 iter1 ifs ifs1 scope pos) scope X.env (firstIterPos [⟨tg, iter, ifs, 0⟩, ⟨tg1, iter1, ifs1, 0⟩] pos) newDict false (eval iter X.env) (some (assign (.Name y py) X.env))) _ _ s
  have h : tDc2 wi g tt wi1 g1 tt1 tk tv (own.map (·.2)) vs1 σ H (fun x H1 => gName i x σ H1 D.nx) := h
  refine wpAny_bind (thn (dc2_core (Qf := fun _ s' => SP X pins D .next s') hc hN I hi ok hv hg ht hk he hs hi1 hg1 ht1 hs1 h fun L C s' m H' I' q hn f => ?_) fun _ s' hq => wpAny_pure (wpAny_pure hq))
  show wpAny _ _ (assign (.Name y py) X.env (.ref L)) _ _ _
  refine wpAny_assign_Name (store_ok2 (v := V.ref L) I' hN hy (.inl hyl) rfl (fun s2 I2 ⟨a, sb, ha⟩ => ?_) (.inr hyl))
  obtain ⟨f0, f1, f2, f3, f4, f5⟩ := f
  have haC : C ≠ a := by
    rcases ha with z | z
    · rw [z]; exact f1
    · exact fun e => f4 y a z e.symm
  refine ⟨m, hn.sameBut sb haC, fun h3 sb3 => ?_⟩
  exact ⟨_, H', I2.turned (t' := s2.toks) (fun b o hb e => (sb3.2 b hb).trans e) f0 f1 f3 f4 f5, q⟩
end
end DW2

namespace Mini
open PySem PySem.Spec PyProof.Rows L2

def gNames : List Nat → TGs
  | [] => gNil
  | i :: is => gCons (gName i) (gNames is)
def gK (K : PySem.W.Frag) : G → TG
  | .name i => gName i
  | .tup is => fun v σ H Q => gTup K is.length (gNames is) v σ H Q ∨ gLst K is.length (gNames is) v σ H Q
  | .nst is i => gTup K 2 (gCons (gTup K is.length (gNames is)) (gCons (gName i) gNil))

structure Sl (K : PySem.W.Frag) (C : List Addr) (M : Addr → Prop) (H : Hp) (σ : Sig) (σv : L2.St) : Prop where
  len : σ.length = σv.length
  at_ : ∀ (i : Nat) (d : D), σ[i]? = some (some d) → ∃ v, σv[i]? = some (some v) ∧ RepS K C M H d v
section
variable {K : PySem.W.Frag} {Tb : List (Addr × Str)} {C C' : List Addr} {M M' : Addr → Prop} {H H' : Hp} {δ δ' : Dl} {σ : Sig} {σv : L2.St}
theorem Sl.step (s : Sl K C M H σ σv) (c : CellH C H) (l : Le C H C' H') (hm : ∀ a, M' a → M a ∨ NT H a) : Sl K C' M' H' σ σv :=
  ⟨s.len, fun i d e => by obtain ⟨v, h1, h2⟩ := s.at_ i d e; exact ⟨v, h1, h2.step c l hm⟩⟩
theorem Sl.le (s : Sl K C M H σ σv) (p : Pre K Tb C M H δ) (l : Le C H C' H') : Sl K C' M H' σ σv := s.step p.cellH l fun a z => .inl z
theorem Sl.set (s : Sl K C M H σ σv) {d : D} {v : V} (i : Nat) (r : RepS K C M H d v) : Sl K C M H (σ.set i (some d)) (σv.set i (some v)) := by
  refine ⟨by rw [List.length_set, List.length_set, s.len], fun j e h => ?_⟩
  by_cases hj : i = j
  · subst hj
    have hl : i < σ.length := by
      have := (List.getElem?_eq_some_iff.mp h).1
      rwa [List.length_set] at this
    rw [List.getElem?_set_self hl] at h
    cases h
    exact ⟨v, List.getElem?_set_self (by rw [← s.len]; exact hl), r⟩
  · rw [List.getElem?_set_ne hj] at h ⊢
    exact s.at_ j e h
theorem Sl.wipe (s : Sl K C M H σ σv) : ∀ vs, Sl K C M H (wipeD σ vs) (L2.wipe σv vs)
  | [] => s
  | v :: vs => by
    have h := Sl.wipe s vs
    unfold wipeD L2.wipe
    refine ⟨by rw [List.length_set, List.length_set, h.len], fun j e q => ?_⟩
    by_cases hj : v = j
    · subst hj
      by_cases hl : v < (wipeD σ vs).length
      · rw [List.getElem?_set_self hl] at q; cases q
      · rw [List.getElem?_eq_none (by simpa using hl)] at q; cases q
    · rw [List.getElem?_set_ne hj] at q ⊢
      exact h.at_ j e q
theorem wipe_get (σ : L2.St) : ∀ (vs : List Nat) (i : Nat), (L2.wipe σ vs)[i]? = if i ∈ vs then (if i < σ.length then some none else none) else σ[i]?
  | [], i => by simp [L2.wipe]
  | v :: vs, i => by
    unfold L2.wipe
    by_cases hv : v = i
    · subst hv
      rw [if_pos (List.mem_cons_self)]
      by_cases hl : v < σ.length
      · rw [if_pos hl, List.getElem?_set_self (by rw [wipe_length]; exact hl)]
      · rw [if_neg hl, List.getElem?_eq_none (by rw [List.length_set, wipe_length]; omega)]
    · rw [List.getElem?_set_ne hv, wipe_get σ vs i]
      by_cases hi : i ∈ vs
      · rw [if_pos hi, if_pos (List.mem_cons_of_mem _ hi)]
      · rw [if_neg hi, if_neg (by simp only [List.mem_cons, not_or]; exact ⟨Ne.symm hv, hi⟩)]
theorem wipe_same {σ1 σ2 : L2.St} {vs : List Nat} (hl : σ2.length = σ1.length) (h : ∀ i, i ∉ vs → σ2[i]? = σ1[i]?) : L2.wipe σ2 vs = L2.wipe σ1 vs := by
  apply List.ext_getElem?
  intro i
  rw [wipe_get, wipe_get, hl]
  by_cases hi : i ∈ vs
  · rw [if_pos hi, if_pos hi]
  · rw [if_neg hi, if_neg hi, h i hi]
theorem wipe_wipe (σ : L2.St) (vs : List Nat) : L2.wipe (L2.wipe σ vs) vs = L2.wipe σ vs := wipe_same (wipe_length σ vs) fun i hi => by rw [wipe_get, if_neg hi]
def Off (is : List Nat) (σ1 σ2 : L2.St) : Prop := σ2.length = σ1.length ∧ ∀ i, i ∉ is → σ2[i]? = σ1[i]?
theorem names_ok : ∀ {is : List Nat} {ds : List D} {vs : List V} {σ σ' : Sig} {σv : L2.St} {Q : L2.St → Hp → Prop}, setMany is ds σ = some σ' → RepL K C M H ds vs → Sl K C M H σ σv →
    (∀ σv', Sl K C M H σ' σv' → Off is σv σv' → Q σv' H) → gNames is vs σv H Q
  | [], [], vs, σ, σ', σv, Q, e, r, s, q => by
    unfold RepL at r
    cases e
    exact ⟨r, q σv s ⟨rfl, fun _ _ => rfl⟩⟩
  | [], d :: ds, vs, σ, σ', σv, Q, e, r, s, q => by cases e
  | i :: is, [], vs, σ, σ', σv, Q, e, r, s, q => by cases e
  | i :: is, d :: ds, vs, σ, σ', σv, Q, e, r, s, q => by
    unfold setMany at e
    split at e
    · cases e
    · unfold RepL at r
      obtain ⟨v, w, e1, r1, r2⟩ := r
      refine ⟨v, w, e1, ?_⟩
      show gNames is w (σv.set i (some v)) H Q
      refine names_ok e r2 (s.set i r1.repS) fun σv' s' o => q σv' s' ⟨by rw [o.1, List.length_set], fun j hj => ?_⟩
      simp only [List.mem_cons, not_or] at hj
      rw [o.2 j hj.2, List.getElem?_set_ne (Ne.symm hj.1)]
theorem setMany_len : ∀ {is : List Nat} {ds : List D} {σ σ' : Sig}, setMany is ds σ = some σ' → ds.length = is.length
  | [], [], _, _, _ => rfl
  | [], d :: ds, _, _, e => by cases e
  | i :: is, [], _, _, e => by cases e
  | i :: is, d :: ds, σ, σ', e => by
    unfold setMany at e
    split at e
    · cases e
    · rw [List.length_cons, List.length_cons, setMany_len e]
theorem setG_ok {g : G} {d : D} {v : V} {σ' : Sig} {Q : L2.St → Hp → Prop} (e : setG g d σ = some σ') (r : RepS K C M H d v) (s : Sl K C M H σ σv) (q : ∀ σv', Sl K C M H σ' σv' → Off (gSlots g) σv σv' → Q σv' H) : gK K g v σv H Q := by
  unfold setG at e
  split at e
  · split at e
    · cases e
    · cases e
      refine q _ (s.set _ r) ⟨List.length_set, fun j hj => ?_⟩
      rw [List.getElem?_set_ne]
      exact fun z => hj (by rw [z]; exact List.mem_singleton.mpr rfl)
  · obtain ⟨a, vs, e1, h, h2⟩ := rep_tup (r.rep rfl)
    exact .inl ⟨a, vs, e1, h, by rw [h2.length, setMany_len e], names_ok e h2 s q⟩
  · obtain ⟨a, vs, e1, _, _, h, h2⟩ := rep_lst (r.rep rfl)
    exact .inr ⟨a, vs, e1, SqL.of h, by rw [h2.length, setMany_len e], names_ok e h2 s q⟩
  · split at e
    · cases e
    · rename_i ds d hn
      rw [Option.map_eq_some_iff] at e
      obtain ⟨σ1, e, e2⟩ := e
      subst e2
      obtain ⟨a, vs, e1, h, h2⟩ := rep_tup (r.rep rfl)
      unfold RepL at h2
      obtain ⟨v1, w1, f1, g1, h2⟩ := h2
      unfold RepL at h2
      obtain ⟨v2, w2, f2, g2, h2⟩ := h2
      unfold RepL at h2
      subst h2 f2 f1
      obtain ⟨b, us, e3, h3, h4⟩ := rep_tup g1
      refine ⟨a, _, e1, h, rfl, v1, _, rfl, ⟨b, us, e3, h3, by rw [h4.length, setMany_len e], names_ok e h4 s fun σv' s' o => ⟨v2, _, rfl, rfl, ?_⟩⟩⟩
      refine q _ (s'.set _ g2.repS) ⟨by rw [List.length_set, o.1], fun j hj => ?_⟩
      have hj : j ∉ _ ++ [_] := hj
      simp only [List.mem_append, List.mem_singleton, not_or] at hj
      rw [List.getElem?_set_ne (Ne.symm hj.2), o.2 j hj.1]
  · cases e

structure Errs (K : PySem.W.Frag) (X : List Str) where
  xv : Str → Value
  xf : Str → Str
  rf : ∀ c, c ∈ X → ∃ C : Addr, xv c = .ref C
  is : ∀ c, c ∈ X → ∀ c', c' ∈ X → PySem.W.exmOne K (xv c) (xv c') = some (decide (c = c'))
def XRel {X : List Str} (Er : Errs K X) (C : List Addr) (M : Addr → Prop) (H : Hp) (c : Str) (p : List D) (cls : Value) (d : Option Addr) : Prop :=
  c ∈ X ∧ cls = Er.xv c ∧ match p with
    | [] => d = none
    | t :: _ => ∃ dd v, d = some dd ∧ H dd = some (.xd [(Er.xf c, v)]) ∧ Rep K C M H t v
def RPost {X : List Str} (Er : Errs K X) (Tb : List (Addr × Str)) (C : List Addr) (M : Addr → Prop) (H : Hp) {α : Type} (r : R α) (Qok : α → Dl → List Addr → Hp → Prop) (Qex : XK) : Prop := match r with
  | .ok a δ' => ∀ C' H', Le C H C' H' → Pre K Tb C' M H' δ' → Qok a δ' C' H'
  | .ex c p δ' => ∀ C' H' cls d, Le C H C' H' → Pre K Tb C' M H' δ' → XRel Er C' M H' c p cls d → Qex cls d H'
  | .bad => False
theorem RPost.le {X : List Str} {Er : Errs K X} {α : Type} {r : R α} {Qok : α → Dl → List Addr → Hp → Prop} {Qex : XK} (h : RPost Er Tb C M H r Qok Qex) (l : Le C H C' H') : RPost Er Tb C' M H' r Qok Qex := by
  cases r with
  | ok a δ' => exact fun C2 H2 l2 p => h C2 H2 (l.trans l2) p
  | ex c q δ' => exact fun C2 H2 cls d l2 p x => h C2 H2 cls d (l.trans l2) p x
  | bad => exact h
theorem RPost.bind {X : List Str} {Er : Errs K X} {α β : Type} {r : R α} {f : α → Dl → R β} {Qok : β → Dl → List Addr → Hp → Prop} {Qex : XK} (h : RPost Er Tb C M H (r.bind f) Qok Qex) :
    RPost Er Tb C M H r (fun a δ' C' H' => RPost Er Tb C' M H' (f a δ') Qok Qex) Qex := by
  cases r with
  | ok a δ' => exact fun C2 H2 l2 p => RPost.le h l2
  | ex c q δ' => exact h
  | bad => exact h
theorem RPost.mono {X : List Str} {Er : Errs K X} {α : Type} {r : R α} {Qok Qok' : α → Dl → List Addr → Hp → Prop} {Qex : XK} (h : RPost Er Tb C M H r Qok Qex) (hq : ∀ a δ' C' H', Le C H C' H' → Pre K Tb C' M H' δ' → Qok a δ' C' H' → Qok' a δ' C' H') :
    RPost Er Tb C M H r Qok' Qex := by
  cases r with
  | ok a δ' => exact fun C2 H2 l2 p => hq _ _ _ _ l2 p (h C2 H2 l2 p)
  | ex c q δ' => exact h
  | bad => exact h
theorem RPost.of {X : List Str} {Er : Errs K X} {α : Type} {o : Option α} {Qok : α → Dl → List Addr → Hp → Prop} {Qex : XK} (p : Pre K Tb C M H δ) (h : RPost Er Tb C M H (R.of o δ) Qok Qex) : ∃ a, o = some a ∧ Qok a δ C H := by
  cases o with
  | some a => exact ⟨a, rfl, h C H (Le.refl C H) p⟩
  | none => exact h.elim
theorem RPost.here {X : List Str} {Er : Errs K X} {α : Type} {a : α} {Qok : α → Dl → List Addr → Hp → Prop} {Qex : XK} (p : Pre K Tb C M H δ) (h : RPost Er Tb C M H (.ok a δ) Qok Qex) : Qok a δ C H := h C H (Le.refl C H) p
end

def spOf {K : PySem.W.Frag} {X : List Str} (Er : Errs K X) (Tb : List (Addr × Str)) (F : List D → Dl → R D) : Sp := fun vs H Q E => ∃ C M ts δ, Pre K Tb C M H δ ∧ RepL K C M H ts vs ∧
  RPost Er Tb C M H (F ts δ) (fun d _ C' H' => isOwn d = false ∧ ∀ v, Rep K C' M H' d v → Q v H') E
def W0 : WX := fun _ _ _ _ => False
def wStr (K : PySem.W.Frag) (xv : Str → Value) (Q : VK) : List (Str × Str) → XK
  | [] => fun _ _ _ => False
  | (c, s) :: r => fun cls d H' => ∃ b, PySem.W.exmOne K cls (xv c) = some b ∧ (b = true → Q (.str s) H') ∧ (b = false → wStr K xv Q r cls d H')
def TTm (K : PySem.W.Frag) (xv : Str → Value) (hs : List (Str × Str)) : (XK → Hp → VK → Prop) → Hp → VK → Prop := fun tl H Q => tl (wStr K xv Q hs) H Q
structure Rd where
  v : TE
  t : TT
  o : TO
  a : TA
def Rd.val (K : PySem.W.Frag) (v : TE) : Rd where
  v := v
  t := fun σ H Q => v σ H fun x H' => ∃ k, TruV K x H' k ∧ Q k H'
  o := tPart v
  a := fun _ _ _ => False
def Rd.tst (v : TE) (t : TT) : Rd where
  v := v
  t := t
  o := fun _ _ _ => False
  a := fun _ _ _ => False
def Rd.arg (a : TA) : Rd where
  v := fun _ _ _ => False
  t := fun _ _ _ => False
  o := fun _ _ _ => False
  a := a
section
def tSel (fs : List (Str × Nat)) (sp : Nat → Sp) (E : L2.St → XK) (i : Nat) (t : TA) : TE := fun σ H Q => ∀ (pp : Addr) (kvs : List (Key × V)), H pp = none →
  ∃ s f, σ[i]? = some (some (.str s)) ∧ selGet fs s none = some f ∧ t σ (upd H pp (.dK kvs)) fun vs H1 => sp f vs H1 Q (E σ)
variable {K : PySem.W.Frag} (P : Par) (Er : Errs K P.X) (Tb : List (Addr × Str)) (Gv : Nat → V)
def rI (k : IK) (ta : TA) : TI := fun σ H R => ta σ H fun vs H1 => iK K k vs H1 R
def rd : E → WX → Rd
  | .var i, _ => .val K (tVar i)
  | .int i, _ => .val K (tC (.int i))
  | .bl b, _ => .val K (tC (.bl b))
  | .non, _ => .val K (tC .non)
  | .str s, _ => .val K (tC (.str s))
  | .ty n, _ => .val K (tC (.ty n))
  | .glob g, _ => .val K (tC (Gv g))
  | .bin o a b, W => .val K (tOp (rBin K o) (rd a W).v (rd b W).v)
  | .fdv a b, W => .val K (tOp rFdv (rd a W).v (rd b W).v)
  | .neg a, W => .val K (tUn (rU fun i => .int (-i)) (rd a W).v)
  | .cmp o a b, W => .tst (tOp (rCmp K o) (rd a W).v (rd b W).v) (tTest (tOp (rCmp K o) (rd a W).v (rd b W).v))
  | .chain o o' a b c, W => .tst (tChain (rCmp K o) (rCmp K o') (rd a W).v (rd b W).v (rd c W).v) (tTest (tChain (rCmp K o) (rCmp K o') (rd a W).v (rd b W).v (rd c W).v))
  | .and a b, W => .tst (tAndT K (rd a W).v (rd b W).v) (tAnd (rd a W).t (rd b W).t)
  | .or a b, W => .tst (tOrT K (rd a W).v (rd b W).v) (tOr (rd a W).t (rd b W).t)
  | .not a, W => .tst (tNotT K (rd a W).v) (tNot (rd a W).t)
  | .ite c a b, W => .tst (tIf (rd c W).t (rd a W).v (rd b W).v) fun _ _ _ => False
  | .tup a, W => .val K (tTup (rd a W).a)
  | .lst a, W => .val K (tLst (rd a W).a)
  | .idx a i, W => .val K (tOp (rIx2 K) (rd a W).v (rd i W).v)
  | .srt k a, W => .val K (SK.tSrt K Tb k (rd a W).v)
  | .cnt a b, W => .val K (tBM K "list" (rCountD K) (rd a W).v (tCons (rd b W).v tNil))
  | .ixm a b, W => .val K (tBM K "list" (rIndexD K) (rd a W).v (tCons (rd b W).v tNil))
  | .lrng a, W => .val K (tLstRg (tRg1 (rd a W).v))
  | .slc a lo hi, W => .val K (tSl (rSl K) (rd a W).v (rd lo W).o (rd hi W).o)
  | .call f a, W => .val K (tCallS (spOf Er Tb (P.F f)) (WE W) (rd a W).a)
  | .blt b a, W => .val K (tCB (rBlt K b) (rd a W).a)
  | .lc vs g k it c e, W => .val K (tLc (rI (K := K) k (rd it W).a) (gK K g) (rd c W0).t (rd e W0).v vs)
  | .gx b vs g k it c e, W => .val K (GX.tGx Tb b (rI (K := K) k (rd it W).a) (gK K g) (rd c W0).t (rd e W0).v vs)
  | .gsm vs g k it c e, W => .val K (GU.tGu Tb (rI (K := K) k (rd it W).a) (gK K g) (rd c W0).t (rd e W0).v vs)
  | .uni vs g k it c vs1 g1 k1 it1 c1 e, W => .val K (DW2.tDc2 (rI (K := K) k (rd it W).a) (gK K g) (rd c W0).t (rI (K := K) k1 (rd it1 W0).a) (gK K g1) (rd c1 W0).t (rd e W0).v (tC (.bl true)) vs vs1)
  | .dnew, _ => .tst DM.tNewI fun _ _ _ => False
  | .din n a d, W => .tst (DM.tInI K n (rd a W).v (rd d W).v) (tTest (DM.tInI K n (rd a W).v (rd d W).v))
  | .dget d a, W => .tst (DM.tGetI K (rd d W).v (rd a W).v) fun _ _ _ => False
  | .dgeto d a x, W => .tst (DM.tGetOI K (rd d W).v (rd a W).v (rd x W).v) fun _ _ _ => False
  | .fld c f a, W => .val K (IN.tFldC (clsA K c) f (rd a W).v)
  | .mcl c m f o a, W => .val K (IN.tMethS (clsA K c) m (spOf Er Tb (P.F f)) (WE W) (rd o W).v (rd a W).a)
  | .mk c f a, W => .val K (IN.tMakeS (clsA K c) (spOf Er Tb (P.F f)) (WE W) (rd a W).a)
  | .newc a, W => .tst (rd a W).v fun _ _ _ => False
  | .scope a, W => .tst (rd a W).v fun _ _ _ => False
  | .lend _ a, W => .tst (rd a W).v (rd a W).t
  | .told hs a, _ => .val K (LamX.tLam Tb (TTm K Er.xv hs) fun E => (rd a fun cls d _ H => E cls d H).v)
  | .tab1 s i, _ => .val K (tDisp [(tC (.str s), tVar i)])
  | .sel fs i a, W => .val K (tSel fs (fun f => spOf Er Tb (P.F f)) (WE W) i (rd a W).a)
  | .nil, _ => .arg tNil
  | .cons a b, W => .arg (tCons (rd a W).v (rd b W).a)
  | .np, _ => { v := fun _ _ _ => False, t := tYes, o := tNoPart, a := fun _ _ _ => False }
termination_by structural e => e
end
end Mini

namespace Mini
open PySem PySem.Spec PyProof.Rows L2
section
variable {K : PySem.W.Frag} {P : Par} (Er : Errs K P.X) (Tb : List (Addr × Str)) (Gv : Nat → V)
abbrev wx (W : WX) (σv : L2.St) : XK := fun cls d H' => W cls d σv H'
structure Snd (e : E) : Prop where
  v : ∀ (W : WX) (C : List Addr) (M : Addr → Prop) (σ : Sig) (δ : Dl) (σv : L2.St) (H : Hp) (Q : VK), Pre K Tb C M H δ → Sl K C M H σ σv →
    RPost Er Tb C M H ((evA' P e).v σ δ) (fun d δ' C' H' => ∀ x, RepS K C' M H' d x → (isFresh e = true → Frs K Tb M H C' H' δ' d x) → Q x H') (wx W σv) → (rd P Er Tb Gv e W).v σv H Q
  t : ∀ (W : WX) (C : List Addr) (M : Addr → Prop) (σ : Sig) (δ : Dl) (σv : L2.St) (H : Hp) (Q : Bool → Hp → Prop), Pre K Tb C M H δ → Sl K C M H σ σv →
    RPost Er Tb C M H ((evA' P e).t σ δ) (fun k _ _ H' => Q k H') (wx W σv) → (rd P Er Tb Gv e W).t σv H Q
  o : ∀ (W : WX) (C : List Addr) (M : Addr → Prop) (σ : Sig) (δ : Dl) (σv : L2.St) (H : Hp) (Q : Option Int → Hp → Prop), Pre K Tb C M H δ → Sl K C M H σ σv →
    RPost Er Tb C M H ((evA' P e).o σ δ) (fun k _ _ H' => Q k H') (wx W σv) → (rd P Er Tb Gv e W).o σv H Q
  a : ∀ (W : WX) (C : List Addr) (M : Addr → Prop) (σ : Sig) (δ : Dl) (σv : L2.St) (H : Hp) (Q : List V → Hp → Prop), Pre K Tb C M H δ → Sl K C M H σ σv →
    RPost Er Tb C M H ((evA' P e).a σ δ) (fun ds _ C' H' => ∀ xs, RSL K C' M H' ds xs → Q xs H') (wx W σv) → (rd P Er Tb Gv e W).a σv H Q
variable {Er Tb Gv}
theorem Snd.val {e : E} {f : Sig → Dl → R D} {g : WX → TE} (h1 : evA' P e = Ev.val f) (h2 : ∀ W, rd P Er Tb Gv e W = Rd.val K (g W))
    (h : ∀ (W : WX) (C : List Addr) (M : Addr → Prop) (σ : Sig) (δ : Dl) (σv : L2.St) (H : Hp) (Q : VK), Pre K Tb C M H δ → Sl K C M H σ σv →
      RPost Er Tb C M H (f σ δ) (fun d δ' C' H' => ∀ x, RepS K C' M H' d x → (isFresh e = true → Frs K Tb M H C' H' δ' d x) → Q x H') (wx W σv) → g W σv H Q) : Snd Er Tb Gv e := by
  refine ⟨fun W C M σ δ σv H Q p s q => ?_, fun W C M σ δ σv H Q p s q => ?_, fun W C M σ δ σv H Q p s q => ?_, fun W C M σ δ σv H Q p s q => ?_⟩
  · rw [h1] at q
    rw [h2]
    exact h W C M σ δ σv H Q p s q
  · rw [h1] at q
    rw [h2]
    refine h W C M σ δ σv H _ p s (RPost.mono (RPost.bind q) fun d δ' C' H' l p' q' x r _ => ?_)
    obtain ⟨k, e1, q2⟩ := RPost.of p' q'
    exact ⟨k, tru_ok e1 r, q2⟩
  · rw [h1] at q
    rw [h2]
    refine h W C M σ δ σv H _ p s (RPost.mono (RPost.bind q) fun d δ' C' H' l p' q' x r _ => ?_)
    obtain ⟨i, e1, q2⟩ := RPost.of p' (RPost.bind q')
    refine ⟨i, ?_, RPost.here p' q2⟩
    cases d <;> simp only [intOf] at e1 <;> cases e1
    exact rep_int (r.rep rfl)
  · rw [h1] at q
    exact q.elim
theorem Snd.tst {e : E} {f : Sig → Dl → R D} {f' : Sig → Dl → R Bool} {g : WX → TE} {g' : WX → TT} (h1 : evA' P e = Ev.tst f f') (h2 : ∀ W, rd P Er Tb Gv e W = Rd.tst (g W) (g' W))
    (h : ∀ (W : WX) (C : List Addr) (M : Addr → Prop) (σ : Sig) (δ : Dl) (σv : L2.St) (H : Hp) (Q : VK), Pre K Tb C M H δ → Sl K C M H σ σv →
      RPost Er Tb C M H (f σ δ) (fun d δ' C' H' => ∀ x, RepS K C' M H' d x → (isFresh e = true → Frs K Tb M H C' H' δ' d x) → Q x H') (wx W σv) → g W σv H Q)
    (h' : ∀ (W : WX) (C : List Addr) (M : Addr → Prop) (σ : Sig) (δ : Dl) (σv : L2.St) (H : Hp) (Q : Bool → Hp → Prop), Pre K Tb C M H δ → Sl K C M H σ σv →
      RPost Er Tb C M H (f' σ δ) (fun k _ _ H' => Q k H') (wx W σv) → g' W σv H Q) : Snd Er Tb Gv e := by
  refine ⟨fun W C M σ δ σv H Q p s q => ?_, fun W C M σ δ σv H Q p s q => ?_, fun W C M σ δ σv H Q p s q => ?_, fun W C M σ δ σv H Q p s q => ?_⟩
  · rw [h1] at q; rw [h2]; exact h W C M σ δ σv H Q p s q
  · rw [h1] at q; rw [h2]; exact h' W C M σ δ σv H Q p s q
  · rw [h1] at q; exact q.elim
  · rw [h1] at q; exact q.elim
theorem Snd.arg {e : E} {f : Sig → Dl → R (List D)} {g : WX → TA} (h1 : evA' P e = Ev.arg f) (h2 : ∀ W, rd P Er Tb Gv e W = Rd.arg (g W))
    (h : ∀ (W : WX) (C : List Addr) (M : Addr → Prop) (σ : Sig) (δ : Dl) (σv : L2.St) (H : Hp) (Q : List V → Hp → Prop), Pre K Tb C M H δ → Sl K C M H σ σv →
      RPost Er Tb C M H (f σ δ) (fun ds _ C' H' => ∀ xs, RSL K C' M H' ds xs → Q xs H') (wx W σv) → g W σv H Q) : Snd Er Tb Gv e := by
  refine ⟨fun W C M σ δ σv H Q p s q => ?_, fun W C M σ δ σv H Q p s q => ?_, fun W C M σ δ σv H Q p s q => ?_, fun W C M σ δ σv H Q p s q => ?_⟩
  · rw [h1] at q; exact q.elim
  · rw [h1] at q; exact q.elim
  · rw [h1] at q; exact q.elim
  · rw [h1] at q; rw [h2]; exact h W C M σ δ σv H Q p s q
theorem Snd.con {e : E} {d : D} {v : V} (h1 : evA' P e = Ev.val fun _ δ => .ok d δ) (h2 : ∀ W, rd P Er Tb Gv e W = Rd.val K (tC v)) (hf : isFresh e = false) (h : ∀ C M H, Rep K C M H d v) : Snd Er Tb Gv e :=
  Snd.val h1 h2 fun W C M σ δ σv H Q p s q => RPost.here p q v (h C M H).repS (fun z => by rw [hf] at z; cases z)
theorem no_of {b : Bool} {X : Prop} (h : b = false) : b = true → X := fun z => by rw [h] at z; cases z
theorem own_no {d : D} {C : List Addr} {M : Addr → Prop} {H : Hp} {v : V} (r : Rep K C M H d v) : isOwn d = false := by
  cases d
  case own => unfold Rep at r; exact r.elim
  all_goals rfl
theorem post_of {C : List Addr} {M : Addr → Prop} {H0 H : Hp} {δ : Dl} {d : D} {Q : VK} {fr : Bool} {C0 : List Addr} (l : Le C0 H0 C H)
    (q : ∀ C' H', Le C H C' H' → Pre K Tb C' M H' δ → ∀ x, RepS K C' M H' d x → (fr = true → Frs K Tb M H0 C' H' δ d x) → Q x H') : Post K Tb fr C M H δ d Q :=
  fun C' H' v l' p' r' f => q C' H' l' p' v r'.repS fun z => (f z).back l l'
theorem lc_ok {J : It} {Gh : List (D × V)} {g : G} {ec : E} {ee : E} {vs : List Nat} {σ : Sig} {σv : L2.St} {C1 : List Addr} {H1 : Hp} {M : Addr → Prop} {δ1 : Dl} {xs : List D} {Dl_ : Addr} {Qd : Hp → Prop}
    (hc : Snd Er Tb Gv ec) (he : Snd Er Tb Gv ee) (w : Wk K Tb J Gh xs) (hg : ∀ i, i ∈ gSlots g → i ∈ vs) (hz : xs.length ≤ 1000000)
    (p : Pre K Tb C1 M H1 δ1) (s : Sl K C1 M H1 σ σv) (gh : ∀ x, x ∈ Gh → Rep K C1 M H1 x.1 x.2) (hD : H1 Dl_ = none) {ys : List D} {δ' : Dl}
    (e : lcGo g (evA' P ec).t (evA' P ee).v (wipeD σ vs) xs δ1 = .ok ys δ')
    (hd : ∀ C' H' ws, Le C1 H1 C' H' → Pre K Tb C' (fun x => M x ∨ x = Dl_) H' δ' → Dl_ ∉ C' → H' Dl_ = some (.lst ws) → RepL K C' (fun x => M x ∨ x = Dl_) H' ys ws → Qd H') :
    ∃ W : Nat → Nat → Hp → Prop, (∃ m, W 0 m (upd H1 Dl_ (.lst []))) ∧ ∀ i m H, W i m H →
      (J.stop i H ∧ Qd H) ∨ (J.go i H ∧ ∃ Nx : Hp → Prop, (∀ H', Nx H' → ∃ m', m' < m ∧ W (i + 1) m' H') ∧ ∀ x H', J.yld i H x H' → gK K g x (L2.wipe σv vs) H' fun σ2 H2 => L2.wipe σ2 vs = L2.wipe σv vs ∧ (rd P Er Tb Gv ec W0).t σ2 H2 fun b H3 =>
        if b = true then (rd P Er Tb Gv ee W0).v σ2 H3 fun y H4 => ∃ acc, H4 Dl_ = some (.lst acc) ∧ acc.length < sizeLine ∧ Nx (upd H4 Dl_ (.lst (acc ++ [y]))) else Nx H3) := by
  obtain ⟨f1, f2⟩ := p.fresh hD
  have hm : ∀ x, (M x ∨ x = Dl_) → M x ∨ NT H1 x := fun x z => z.elim .inl fun e => .inr (by rw [e]; exact NT.of_none hD)
  -- the word: what is done, what is left
  refine ⟨fun i m H => i ≤ xs.length ∧ m = xs.length - i ∧ ∃ C' δ zs us ws, Le C1 H1 C' H ∧ Pre K Tb C' (fun x => M x ∨ x = Dl_) H δ ∧ Dl_ ∉ C' ∧ H Dl_ = some (.lst ws) ∧ ws.length ≤ i ∧ RepL K C' (fun x => M x ∨ x = Dl_) H zs ws ∧
    lcGo g (evA' P ec).t (evA' P ee).v (wipeD σ vs) (xs.drop i) δ = .ok us δ' ∧ ys = zs ++ us, ⟨xs.length, Nat.zero_le _, by simp, ?_⟩, ?_⟩
  · have u := upd_all (o := .lst []) hD
    have p1 := p.all u
    refine ⟨C1, δ1, [], ys, [], le_of_all u, ⟨p1.tabs, p1.nd, p1.len, fun x hx z => ?_, fun x z => ?_, fun k us e => ?_⟩, f2, upd_same, by simp, repL_nil, by simpa using e, by simp⟩
    · rcases z with z | z
      · exact p.cm x hx z
      · rw [z] at hx; exact f2 hx
    · rcases z with z | z
      · exact p1.mh x z
      · rw [z]; exact ⟨_, upd_same, MO.lst⟩
    · obtain ⟨b, e1, r2⟩ := p.cells k us e
      exact ⟨b, e1, r2.map (fun o _ => u b o) (RepL.step p.cellH (le_of_all u) hm)⟩
  · rintro i m H ⟨hi, rfl, C', δ, zs, us, ws, l, p', nD, hDl, hws, rz, ego, hys⟩
    have wk := w C' _ H δ p' fun x hx => Rep.step p.cellH l hm _ _ (gh x hx)
    by_cases hlt : i < xs.length
    · refine .inr ⟨wk.1 i hlt, fun H' => i + 1 ≤ xs.length ∧ ∃ C' δ zs us ws, Le C1 H1 C' H' ∧ Pre K Tb C' (fun x => M x ∨ x = Dl_) H' δ ∧ Dl_ ∉ C' ∧ H' Dl_ = some (.lst ws) ∧ ws.length ≤ i + 1 ∧ RepL K C' (fun x => M x ∨ x = Dl_) H' zs ws ∧
        lcGo g (evA' P ec).t (evA' P ee).v (wipeD σ vs) (xs.drop (i + 1)) δ = .ok us δ' ∧ ys = zs ++ us, fun H' ⟨a, b⟩ => ⟨xs.length - (i + 1), by omega, a, rfl, b⟩, fun x H' y => ?_⟩
      obtain ⟨t, et, l2, p2, rt⟩ := wk.2.2 i x H' hlt y
      have ed : xs.drop i = t :: xs.drop (i + 1) := by
        obtain ⟨h1, h2⟩ := List.getElem?_eq_some_iff.mp et
        rw [← h2]; exact List.drop_eq_getElem_cons hlt
      rw [ed] at ego
      unfold lcGo at ego
      cases eg : setG g t (wipeD σ vs) with
      | none => rw [eg] at ego; cases ego
      | some σ2 =>
        rw [eg] at ego
        simp only at ego
        have s1 : Sl K C' (fun x => M x ∨ x = Dl_) H' (wipeD σ vs) (L2.wipe σv vs) := ((s.step p.cellH l hm).le p' l2).wipe vs
        refine setG_ok eg rt.repS s1 fun σv2 s2 off => ?_
        refine ⟨?_, ?_⟩
        · rw [← wipe_wipe σv vs]
          exact wipe_same off.1 fun j hj => off.2 j fun z => hj (hg j z)
        · -- the test
          refine hc.t W0 C' _ σ2 δ σv2 H' _ p2 s2 ?_
          cases et2 : (evA' P ec).t σ2 δ with
          | ex c q d => rw [et2] at ego; cases ego
          | bad => rw [et2] at ego; cases ego
          | ok b δ3 =>
            rw [et2] at ego
            simp only [R.noex, R.bind] at ego
            intro C3 H3 l3 p3
            have hD3 : H3 Dl_ = some (.lst ws) := l3.ext _ _ (l2.ext _ _ hDl nD (fun ps z => by cases z)) (l2.notin hDl (fun ps z => by cases z) nD) (fun ps z => by cases z)
            have nD3 : Dl_ ∉ C3 := l3.notin (l2.ext _ _ hDl nD (fun ps z => by cases z)) (fun ps z => by cases z) nD
            have rz3 : RepL K C3 (fun x => M x ∨ x = Dl_) H3 zs ws := RepL.step p'.cellH (l2.trans l3) (fun a z => .inl z) zs ws rz
            cases b with
            | false =>
              simp only [Bool.false_eq_true, if_false] at ego ⊢
              exact ⟨hlt, C3, δ3, zs, us, ws, (l.trans l2).trans l3, p3, nD3, hD3, by omega, rz3, ego, hys⟩
            | true =>
              simp only [if_true] at ego ⊢
              refine he.v W0 C3 _ σ2 δ3 σv2 H3 _ p3 (s2.le p2 l3) ?_
              cases ee2 : (evA' P ee).v σ2 δ3 with
              | ex c q d => rw [ee2] at ego; cases ego
              | bad => rw [ee2] at ego; cases ego
              | ok y2 δ4 =>
                rw [ee2] at ego
                simp only [R.noex, R.bind] at ego
                cases ho : isOwn y2 with
                | true => rw [ho] at ego; cases ego
                | false =>
                  rw [ho] at ego
                  simp only [Bool.false_eq_true, if_false] at ego
                  intro C4 H4 l4 p4 vy ry _
                  have ry := ry.rep ho
                  have hD4 : H4 Dl_ = some (.lst ws) := l4.ext _ _ hD3 nD3 (fun ps z => by cases z)
                  have nD4 : Dl_ ∉ C4 := l4.notin hD3 (fun ps z => by cases z) nD3
                  have rz4 : RepL K C4 (fun x => M x ∨ x = Dl_) H4 zs ws := RepL.step p3.cellH l4 (fun a z => .inl z) zs ws rz3
                  refine ⟨ws, hD4, by rw [sizeLine_eq]; omega, hlt, ?_⟩
                  cases er : lcGo g (evA' P ec).t (evA' P ee).v (wipeD σ vs) (xs.drop (i + 1)) δ4 with
                  | ex c q d => rw [er] at ego; cases ego
                  | bad => rw [er] at ego; cases ego
                  | ok us' δ5 =>
                    rw [er] at ego
                    simp only [R.ok.injEq] at ego
                    obtain ⟨e1, e2⟩ := ego
                    subst e2
                    -- the list at Dl_ has grown: what does not speak of it stands
                    have other : ∀ a o, H4 a = some o → a ≠ Dl_ → upd H4 Dl_ (.lst (ws ++ [vy])) a = some o := fun a o h n => by rw [upd_ne n]; exact h
                    have cn : ∀ a, a ∈ C4 → a ≠ Dl_ := fun a ha z => nD4 (by rw [← z]; exact ha)
                    have wr : Wr H4 (upd H4 Dl_ (.lst (ws ++ [vy]))) Dl_ := ⟨⟨_, hD4, CO.lst⟩, fun a o n h => other a o h n⟩
                    have stepL : ∀ ts rs, RepL K C4 (fun x => M x ∨ x = Dl_) H4 ts rs → RepL K C4 (fun x => M x ∨ x = Dl_) (upd H4 Dl_ (.lst (ws ++ [vy]))) ts rs := RepL.wr (.inl (.inr rfl)) wr
                    refine ⟨C4, δ4, zs ++ [y2], us', ws ++ [vy], ⟨((l.trans l2).trans l3).trans l4 |>.pre, fun a ha n => (((l.trans l2).trans l3).trans l4).new a ha n, fun a o h n hn => ?_⟩, ⟨?_, p4.nd, p4.len, p4.cm, fun a z => ?_, fun k ts e => ?_⟩, nD4, upd_same, by simp; omega, ?_, er, by rw [hys, ← e1]; simp⟩
                    · have := (((l.trans l2).trans l3).trans l4).ext a o h n hn
                      exact other a o this (ne_of_none h hD)
                    · exact wr.tabs p4.tabs
                    · by_cases ha : a = Dl_
                      · rw [ha]; exact ⟨_, upd_same, MO.lst⟩
                      · obtain ⟨xs', q, mo⟩ := p4.mh a z
                        exact ⟨xs', other a _ q ha, mo⟩
                    · obtain ⟨a, e1, r⟩ := p4.cells k ts e
                      exact ⟨a, e1, r.map (fun o _ e2 => other a _ e2 (cn a (List.mem_of_getElem? e1))) stepL⟩
                    · exact (stepL zs ws rz4).append (.one (by
                        have := stepL [y2] [vy] (.one ry)
                        unfold RepL at this
                        obtain ⟨v, r, e1, h1, h2⟩ := this
                        cases e1
                        exact h1))
    · have ei : i = xs.length := by omega
      subst ei
      rw [List.drop_length] at ego
      cases ego
      exact .inl ⟨wk.2.1, hd C' H ws l p' nD hDl (by rw [hys]; simpa using rz)⟩
theorem gx_ok {J : It} {Gh : List (D × V)} {b : Bool} {g : G} {ec : E} {ee : E} {vs : List Nat} {σ : Sig} {σv : L2.St} {C1 : List Addr} {H1 : Hp} {M : Addr → Prop} {δ1 : Dl} {xs : List D} {Q : VK}
    (hc : Snd Er Tb Gv ec) (he : Snd Er Tb Gv ee) (w : Wk K Tb J Gh xs) (hg : ∀ i, i ∈ gSlots g → i ∈ vs)
    (p : Pre K Tb C1 M H1 δ1) (s : Sl K C1 M H1 σ σv) (gh : ∀ x, x ∈ Gh → Rep K C1 M H1 x.1 x.2) {r : Bool} {δ' : Dl}
    (e : gxGo b g (evA' P ec).t (evA' P ee).v (wipeD σ vs) xs δ1 = .ok r δ') (hd : ∀ C' H', Le C1 H1 C' H' → Pre K Tb C' M H' δ' → Q (.bl r) H') :
    ∃ W : Nat → Nat → Hp → Prop, (∃ m, W 0 m H1) ∧ GX.Turns b J (gK K g) (rd P Er Tb Gv ec W0).t (rd P Er Tb Gv ee W0).v (L2.wipe σv vs) vs Q W := by
  refine ⟨fun i m H => i ≤ xs.length ∧ m = xs.length - i ∧ ∃ C' δ, Le C1 H1 C' H ∧ Pre K Tb C' M H δ ∧ gxGo b g (evA' P ec).t (evA' P ee).v (wipeD σ vs) (xs.drop i) δ = .ok r δ', ⟨xs.length, Nat.zero_le _, by simp, C1, δ1, Le.refl _ _, p, by simpa using e⟩, ?_⟩
  rintro i m H ⟨hi, rfl, C', δ, l, p', ego⟩
  have wk := w C' _ H δ p' fun x hx => Rep.step p.cellH l (fun a z => .inl z) _ _ (gh x hx)
  by_cases hlt : i < xs.length
  · refine .inr ⟨wk.1 i hlt, fun H' => i + 1 ≤ xs.length ∧ ∃ C' δ, Le C1 H1 C' H' ∧ Pre K Tb C' M H' δ ∧ gxGo b g (evA' P ec).t (evA' P ee).v (wipeD σ vs) (xs.drop (i + 1)) δ = .ok r δ', fun H' ⟨a, q⟩ => ⟨xs.length - (i + 1), by omega, a, rfl, q⟩, fun x H' y => ?_⟩
    obtain ⟨t, et, l2, p2, rt⟩ := wk.2.2 i x H' hlt y
    have ed : xs.drop i = t :: xs.drop (i + 1) := by
      obtain ⟨h1, h2⟩ := List.getElem?_eq_some_iff.mp et
      rw [← h2]; exact List.drop_eq_getElem_cons hlt
    rw [ed] at ego
    unfold gxGo at ego
    cases eg : setG g t (wipeD σ vs) with
    | none => rw [eg] at ego; cases ego
    | some σ2 =>
      rw [eg] at ego
      simp only at ego
      have s1 : Sl K C' M H' (wipeD σ vs) (L2.wipe σv vs) := ((s.step p.cellH l (fun a z => .inl z)).le p' l2).wipe vs
      refine setG_ok eg rt.repS s1 fun σv2 s2 off => ?_
      refine ⟨?_, ?_⟩
      · rw [← wipe_wipe σv vs]
        exact wipe_same off.1 fun j hj => off.2 j fun z => hj (hg j z)
      · refine hc.t W0 C' _ σ2 δ σv2 H' _ p2 s2 ?_
        cases et2 : (evA' P ec).t σ2 δ with
        | ex c q d => rw [et2] at ego; cases ego
        | bad => rw [et2] at ego; cases ego
        | ok k δ3 =>
          rw [et2] at ego
          simp only [R.noex, R.bind] at ego
          intro C3 H3 l3 p3
          cases k with
          | false =>
            simp only [Bool.false_eq_true, if_false] at ego ⊢
            exact ⟨hlt, C3, δ3, (l.trans l2).trans l3, p3, ego⟩
          | true =>
            simp only [if_true] at ego ⊢
            refine he.v W0 C3 _ σ2 δ3 σv2 H3 _ p3 (s2.le p2 l3) ?_
            cases ee2 : (evA' P ee).v σ2 δ3 with
            | ex c q d => rw [ee2] at ego; cases ego
            | bad => rw [ee2] at ego; cases ego
            | ok y2 δ4 =>
              rw [ee2] at ego
              simp only [R.noex, R.bind] at ego
              intro C4 H4 l4 p4 vy ry _
              obtain ⟨k2, rfl⟩ : ∃ k2, y2 = .bl k2 := by cases y2 <;> first | exact ⟨_, rfl⟩ | cases ego
              simp only at ego
              refine ⟨k2, rep_bl (ry.rep rfl), ?_⟩
              by_cases hk : k2 = b
              · rw [if_pos hk] at ego ⊢
                cases ego
                exact hd C4 H4 (((l.trans l2).trans l3).trans l4) p4
              · rw [if_neg hk] at ego ⊢
                exact ⟨hlt, C4, δ4, ((l.trans l2).trans l3).trans l4, p4, ego⟩
  · have ei : i = xs.length := by omega
    subst ei
    rw [List.drop_length] at ego
    cases ego
    exact .inl ⟨wk.2.1, hd C' H l p'⟩
theorem gs_ok {J : It} {Gh : List (D × V)} {g : G} {ec : E} {ee : E} {vs : List Nat} {σ : Sig} {σv : L2.St} {C1 : List Addr} {H1 : Hp} {M : Addr → Prop} {δ1 : Dl} {xs : List D} {Q : VK}
    (hc : Snd Er Tb Gv ec) (he : Snd Er Tb Gv ee) (w : Wk K Tb J Gh xs) (hg : ∀ i, i ∈ gSlots g → i ∈ vs)
    (p : Pre K Tb C1 M H1 δ1) (s : Sl K C1 M H1 σ σv) (gh : ∀ x, x ∈ Gh → Rep K C1 M H1 x.1 x.2) {a0 r : Int} {δ' : Dl}
    (e : gsGo g (evA' P ec).t (evA' P ee).v (wipeD σ vs) a0 xs δ1 = .ok r δ') (hd : ∀ C' H', Le C1 H1 C' H' → Pre K Tb C' M H' δ' → Q (.int r) H') :
    ∃ W : Nat → Nat → Int → Hp → Prop, (∃ m, W 0 m a0 H1) ∧ GU.TurnsS J (gK K g) (rd P Er Tb Gv ec W0).t (rd P Er Tb Gv ee W0).v (L2.wipe σv vs) vs Q W := by
  refine ⟨fun i m a H => i ≤ xs.length ∧ m = xs.length - i ∧ ∃ C' δ, Le C1 H1 C' H ∧ Pre K Tb C' M H δ ∧ gsGo g (evA' P ec).t (evA' P ee).v (wipeD σ vs) a (xs.drop i) δ = .ok r δ', ⟨xs.length, Nat.zero_le _, by simp, C1, δ1, Le.refl _ _, p, by simpa using e⟩, ?_⟩
  rintro i m a H ⟨hi, rfl, C', δ, l, p', ego⟩
  have wk := w C' _ H δ p' fun x hx => Rep.step p.cellH l (fun a z => .inl z) _ _ (gh x hx)
  by_cases hlt : i < xs.length
  · refine .inr ⟨wk.1 i hlt, fun a H' => i + 1 ≤ xs.length ∧ ∃ C' δ, Le C1 H1 C' H' ∧ Pre K Tb C' M H' δ ∧ gsGo g (evA' P ec).t (evA' P ee).v (wipeD σ vs) a (xs.drop (i + 1)) δ = .ok r δ', fun a' H' ⟨a, q⟩ => ⟨xs.length - (i + 1), by omega, a, rfl, q⟩, fun x H' y => ?_⟩
    obtain ⟨t, et, l2, p2, rt⟩ := wk.2.2 i x H' hlt y
    have ed : xs.drop i = t :: xs.drop (i + 1) := by
      obtain ⟨h1, h2⟩ := List.getElem?_eq_some_iff.mp et
      rw [← h2]; exact List.drop_eq_getElem_cons hlt
    rw [ed] at ego
    unfold gsGo at ego
    cases eg : setG g t (wipeD σ vs) with
    | none => rw [eg] at ego; cases ego
    | some σ2 =>
      rw [eg] at ego
      simp only at ego
      have s1 : Sl K C' M H' (wipeD σ vs) (L2.wipe σv vs) := ((s.step p.cellH l (fun a z => .inl z)).le p' l2).wipe vs
      refine setG_ok eg rt.repS s1 fun σv2 s2 off => ?_
      refine ⟨?_, ?_⟩
      · rw [← wipe_wipe σv vs]
        exact wipe_same off.1 fun j hj => off.2 j fun z => hj (hg j z)
      · refine hc.t W0 C' _ σ2 δ σv2 H' _ p2 s2 ?_
        cases et2 : (evA' P ec).t σ2 δ with
        | ex c q d => rw [et2] at ego; cases ego
        | bad => rw [et2] at ego; cases ego
        | ok k δ3 =>
          rw [et2] at ego
          simp only [R.noex, R.bind] at ego
          intro C3 H3 l3 p3
          cases k with
          | false =>
            simp only [Bool.false_eq_true, if_false] at ego ⊢
            exact ⟨hlt, C3, δ3, (l.trans l2).trans l3, p3, ego⟩
          | true =>
            simp only [if_true] at ego ⊢
            refine he.v W0 C3 _ σ2 δ3 σv2 H3 _ p3 (s2.le p2 l3) ?_
            cases ee2 : (evA' P ee).v σ2 δ3 with
            | ex c q d => rw [ee2] at ego; cases ego
            | bad => rw [ee2] at ego; cases ego
            | ok y2 δ4 =>
              rw [ee2] at ego
              simp only [R.noex, R.bind] at ego
              intro C4 H4 l4 p4 vy ry _
              obtain ⟨k2, rfl⟩ : ∃ k2, y2 = .int k2 := by cases y2 <;> first | exact ⟨_, rfl⟩ | cases ego
              simp only at ego
              exact ⟨k2, rep_int (ry.rep rfl), hlt, C4, δ4, ((l.trans l2).trans l3).trans l4, p4, ego⟩
  · have ei : i = xs.length := by omega
    subst ei
    rw [List.drop_length] at ego
    cases ego
    exact .inl ⟨wk.2.1, hd C' H l p'⟩
end
end Mini

namespace Mini
open PySem PySem.Spec PyProof.Rows L2
section
variable {K : PySem.W.Frag} {Tb : List (Addr × Str)} {C C' : List Addr} {M M' : Addr → Prop} {H H' : Hp} {δ δ' : Dl}
mutual
theorem Rep.anyM : ∀ (t : D) (v : V), noLst t = true → Rep K C M H t v → Rep K C M' H t v
  | .non, v, n, h => by unfold Rep at h ⊢; exact h
  | .bl b, v, n, h => by unfold Rep at h ⊢; exact h
  | .int i, v, n, h => by unfold Rep at h ⊢; exact h
  | .str x, v, n, h => by unfold Rep at h ⊢; exact h
  | .ty x, v, n, h => by unfold Rep at h ⊢; exact h
  | .tup ts, v, n, h => by
    unfold Rep at h ⊢
    obtain ⟨a, vs, e, s, r⟩ := h
    exact ⟨a, vs, e, s, RepL.anyM ts vs (by simpa [noLst] using n) r⟩
  | .lst ts, v, n, h => by simp [noLst] at n
  | .own ts, v, n, h => by simp [noLst] at n
  | .frz ts, v, n, h => by simp [noLst] at n
  | .cell k, v, n, h => by unfold Rep at h ⊢; exact h
  | .tab ks ts, v, n, h => by simp [noLst] at n
theorem RepL.anyM : ∀ (ts : List D) (vs : List V), noLstL ts = true → RepL K C M H ts vs → RepL K C M' H ts vs
  | [], vs, n, h => by unfold RepL at h ⊢; exact h
  | t :: ts, vs, n, h => by
    unfold RepL at h ⊢
    obtain ⟨v, r, e, h1, h2⟩ := h
    simp only [noLstL, Bool.and_eq_true] at n
    exact ⟨v, r, e, Rep.anyM t v n.1 h1, RepL.anyM ts r n.2 h2⟩
end
mutual
theorem Rep.anyD {ns : List Nat} (hb : ∀ a, M' a → ¬ M a → ∃ ws, H a = some (.lst ws) ∧ ns.contains ws.length = true) : ∀ (t : D) (v : V), difD ns t = true → Rep K C M H t v → Rep K C M' H t v
  | .non, v, n, h => by unfold Rep at h ⊢; exact h
  | .bl b, v, n, h => by unfold Rep at h ⊢; exact h
  | .int i, v, n, h => by unfold Rep at h ⊢; exact h
  | .str x, v, n, h => by unfold Rep at h ⊢; exact h
  | .ty x, v, n, h => by unfold Rep at h ⊢; exact h
  | .tup ts, v, n, h => by
    unfold Rep at h ⊢
    obtain ⟨a, vs, e, s, r⟩ := h
    exact ⟨a, vs, e, s, RepL.anyD hb ts vs (by simpa [difD] using n) r⟩
  | .lst ts, v, n, h => by
    unfold Rep at h ⊢
    obtain ⟨a, vs, e, nm, nc, s, r⟩ := h
    rw [difD, Bool.and_eq_true] at n
    refine ⟨a, vs, e, fun z => ?_, nc, s, RepL.anyD hb ts vs n.2 r⟩
    obtain ⟨ws, e2, q⟩ := hb a z nm
    rw [s] at e2
    cases e2
    rw [r.length] at q
    have := n.1
    rw [q] at this
    cases this
  | .own ts, v, n, h => by simp [difD] at n
  | .frz ts, v, n, h => by simp [difD] at n
  | .cell k, v, n, h => by unfold Rep at h ⊢; exact h
  | .tab ks ts, v, n, h => by simp [difD] at n
theorem RepL.anyD {ns : List Nat} (hb : ∀ a, M' a → ¬ M a → ∃ ws, H a = some (.lst ws) ∧ ns.contains ws.length = true) : ∀ (ts : List D) (vs : List V), difL ns ts = true → RepL K C M H ts vs → RepL K C M' H ts vs
  | [], vs, n, h => by unfold RepL at h ⊢; exact h
  | t :: ts, vs, n, h => by
    unfold RepL at h ⊢
    obtain ⟨v, r, e, h1, h2⟩ := h
    simp only [difL, Bool.and_eq_true] at n
    exact ⟨v, r, e, Rep.anyD hb t v n.1 h1, RepL.anyD hb ts r n.2 h2⟩
end
mutual
theorem Rep.anyC (hc : ∀ a, a ∈ C' → a ∈ C) : ∀ (t : D) (v : V), noCell t = true → Rep K C M H t v → Rep K C' M H t v
  | .non, v, n, h => by unfold Rep at h ⊢; exact h
  | .bl b, v, n, h => by unfold Rep at h ⊢; exact h
  | .int i, v, n, h => by unfold Rep at h ⊢; exact h
  | .str x, v, n, h => by unfold Rep at h ⊢; exact h
  | .ty x, v, n, h => by unfold Rep at h ⊢; exact h
  | .tup ts, v, n, h => by
    unfold Rep at h ⊢
    obtain ⟨a, vs, e, s, r⟩ := h
    exact ⟨a, vs, e, s, RepL.anyC hc ts vs (by simpa [noCell] using n) r⟩
  | .lst ts, v, n, h => by
    unfold Rep at h ⊢
    obtain ⟨a, vs, e, nm, nc, s, r⟩ := h
    exact ⟨a, vs, e, nm, fun z => nc (hc a z), s, RepL.anyC hc ts vs (by simpa [noCell] using n) r⟩
  | .own ts, v, n, h => by unfold Rep at h; exact h.elim
  | .frz ts, v, n, h => by
    unfold Rep at h ⊢
    obtain ⟨a, vs, e, s, r⟩ := h
    refine ⟨a, vs, e, ?_, RepL.anyC hc ts vs (by simpa [noCell] using n) r⟩
    rcases s with s | ⟨nm, nc, s⟩ | s
    · exact .inl s
    · exact .inr (.inl ⟨nm, fun z => nc (hc a z), s⟩)
    · exact .inr (.inr s)
  | .cell k, v, n, h => by simp [noCell] at n
  | .tab ks ts, v, n, h => by
    unfold Rep at h ⊢
    obtain ⟨a, vs, e, nm, nc, s, r⟩ := h
    exact ⟨a, vs, e, nm, fun z => nc (hc a z), s, RepL.anyC hc ts vs (by simpa [noCell] using n) r⟩
theorem RepL.anyC (hc : ∀ a, a ∈ C' → a ∈ C) : ∀ (ts : List D) (vs : List V), noCellL ts = true → RepL K C M H ts vs → RepL K C' M H ts vs
  | [], vs, n, h => by unfold RepL at h ⊢; exact h
  | t :: ts, vs, n, h => by
    unfold RepL at h ⊢
    obtain ⟨v, r, e, h1, h2⟩ := h
    simp only [noCellL, Bool.and_eq_true] at n
    exact ⟨v, r, e, Rep.anyC hc t v n.1 h1, RepL.anyC hc ts r n.2 h2⟩
end
theorem RepF.anyC (hc : ∀ a, a ∈ C' → a ∈ C) : ∀ (ts : List D) (fv : List (Str × V)), noCellL ts = true → RepF K C M H ts fv → RepF K C' M H ts fv
  | [], fv, n, q => q
  | [d0], fv, n, q => by cases d0 <;> exact q
  | d0 :: d :: r, fv, n, q => by
    cases d0 <;> first | exact q.elim | skip
    case str f =>
    obtain ⟨v, w, e, h1, h2⟩ := q
    have n : (noCell (.str f) && (noCell d && noCellL r)) = true := n
    rw [Bool.and_eq_true, Bool.and_eq_true] at n
    exact ⟨v, w, e, Rep.anyC hc d v n.2.1 h1, RepF.anyC hc r w n.2.2 h2⟩
theorem CellR.anyC (hc : ∀ a, a ∈ C' → a ∈ C) {a : Addr} {ts : List D} (n : noCellL ts = true) (r : CellR K C M H a ts) : CellR K C' M H a ts := by
  unfold CellR at r ⊢
  split at r
  · obtain ⟨vs, q, r⟩ := r
    exact ⟨vs, q, RepL.anyC hc _ _ n r⟩
  · rename_i c us e
    have nu : noCellL us = true := by
      unfold insOf at e
      split at e
      · cases e
        have n : (noCell _ && noCellL us) = true := n
        rw [Bool.and_eq_true] at n
        exact n.2
      · cases e
    split at r
    · rename_i hn
      rw [if_pos hn]
      obtain ⟨vs, xs, q, r, x⟩ := r
      exact ⟨vs, xs, q, RepL.anyC hc _ _ nu r, x⟩
    · rename_i hn
      rw [if_neg hn]
      obtain ⟨dx, fv, q, r⟩ := r
      exact ⟨dx, fv, q, RepF.anyC hc _ _ nu r⟩
theorem RepF.anyM : ∀ (ts : List D) (fv : List (Str × V)), noLstL ts = true → RepF K C M H ts fv → RepF K C M' H ts fv
  | [], fv, n, q => q
  | [d0], fv, n, q => by cases d0 <;> exact q
  | d0 :: d :: r, fv, n, q => by
    cases d0 <;> first | exact q.elim | skip
    case str f =>
    obtain ⟨v, w, e, h1, h2⟩ := q
    have n : (noLst (.str f) && (noLst d && noLstL r)) = true := n
    rw [Bool.and_eq_true, Bool.and_eq_true] at n
    exact ⟨v, w, e, Rep.anyM d v n.2.1 h1, RepF.anyM r w n.2.2 h2⟩
theorem CellR.anyM {a : Addr} {ts : List D} (n : noLstL ts = true) (r : CellR K C M H a ts) : CellR K C M' H a ts := by
  unfold CellR at r ⊢
  split at r
  · obtain ⟨vs, q, r⟩ := r
    exact ⟨vs, q, RepL.anyM _ _ n r⟩
  · rename_i c us e
    have nu : noLstL us = true := by
      unfold insOf at e
      split at e
      · cases e
        have n : (noLst _ && noLstL us) = true := n
        rw [Bool.and_eq_true] at n
        exact n.2
      · cases e
    split at r
    · rename_i hn
      rw [if_pos hn]
      obtain ⟨vs, xs, q, r, x⟩ := r
      exact ⟨vs, xs, q, RepL.anyM _ _ nu r, x⟩
    · rename_i hn
      rw [if_neg hn]
      obtain ⟨dx, fv, q, r⟩ := r
      exact ⟨dx, fv, q, RepF.anyM _ _ nu r⟩
theorem RepS.anyC (hc : ∀ a, a ∈ C' → a ∈ C) {t : D} {v : V} (n : noCell t = true) (h : RepS K C M H t v) : RepS K C' M H t v := by
  cases t
  case own ts =>
    obtain ⟨a, vs, e, nc, s, r⟩ := h
    exact ⟨a, vs, e, fun z => nc (hc a z), s, RepL.anyC hc ts vs (by simpa [noCell] using n) r⟩
  all_goals exact Rep.anyC hc _ _ n h
theorem demote_eq {d : D} (h : isOwn d = false) : demote d = d := by cases d <;> first | rfl | cases h
mutual
theorem Rep.upC {a : Addr} : ∀ (t : D) (v : V), Rep K C (fun x => M x ∨ x = a) H t v → Rep K (C ++ [a]) M H t v
  | .non, v, h => by unfold Rep at h ⊢; exact h
  | .bl b, v, h => by unfold Rep at h ⊢; exact h
  | .int i, v, h => by unfold Rep at h ⊢; exact h
  | .str x, v, h => by unfold Rep at h ⊢; exact h
  | .ty x, v, h => by unfold Rep at h ⊢; exact h
  | .tup ts, v, h => by
    unfold Rep at h ⊢
    obtain ⟨b, vs, e, s, r⟩ := h
    exact ⟨b, vs, e, s, RepL.upC ts vs r⟩
  | .lst ts, v, h => by
    unfold Rep at h ⊢
    obtain ⟨b, vs, e, n, nc, s, r⟩ := h
    refine ⟨b, vs, e, fun z => n (.inl z), fun z => ?_, s, RepL.upC ts vs r⟩
    rcases List.mem_append.mp z with z | z
    · exact nc z
    · exact n (.inr (List.mem_singleton.mp z))
  | .own ts, v, h => by unfold Rep at h; exact h.elim
  | .frz ts, v, h => by
    unfold Rep at h ⊢
    obtain ⟨b, vs, e, s, r⟩ := h
    refine ⟨b, vs, e, ?_, RepL.upC ts vs r⟩
    rcases s with s | ⟨n, nc, s⟩ | s
    · exact .inl s
    · refine .inr (.inl ⟨fun z => n (.inl z), fun z => ?_, s⟩)
      rcases List.mem_append.mp z with z | z
      · exact nc z
      · exact n (.inr (List.mem_singleton.mp z))
    · exact .inr (.inr s)
  | .cell k, v, h => by
    unfold Rep at h ⊢
    obtain ⟨b, e, q⟩ := h
    exact ⟨b, e, by rw [List.getElem?_append_left (List.getElem?_eq_some_iff.mp q).1]; exact q⟩
  | .tab ks ts, v, h => by
    unfold Rep at h ⊢
    obtain ⟨b, vs, e, n, nc, s, r⟩ := h
    refine ⟨b, vs, e, fun z => n (.inl z), fun z => ?_, s, RepL.upC ts vs r⟩
    rcases List.mem_append.mp z with z | z
    · exact nc z
    · exact n (.inr (List.mem_singleton.mp z))
theorem RepL.upC {a : Addr} : ∀ (ts : List D) (vs : List V), RepL K C (fun x => M x ∨ x = a) H ts vs → RepL K (C ++ [a]) M H ts vs
  | [], vs, h => by unfold RepL at h ⊢; exact h
  | t :: ts, vs, h => by
    unfold RepL at h ⊢
    obtain ⟨v, r, e, h1, h2⟩ := h
    exact ⟨v, r, e, Rep.upC t v h1, RepL.upC ts r h2⟩
end
theorem RSL.demote : ∀ {ds : List D} {vs : List V}, RSL K C M H ds vs → ∃ bs : List Addr, RepL K C (fun a => M a ∧ a ∉ bs) H (ds.map demote) vs ∧ (ds.any isOwn = false → bs = []) ∧ ∀ b, b ∈ bs → b ∉ C ∧ ∃ ws, H b = some (.lst ws) ∧ (ds.filterMap ownLen).contains ws.length = true
  | [], vs, h => ⟨[], by rw [show vs = [] from h]; exact repL_nil, fun _ => rfl, fun b h => by simp at h⟩
  | d :: ds, vs, ⟨v, r, e, h1, h2⟩ => by
    obtain ⟨bs, q1, q2, q3⟩ := RSL.demote h2
    subst e
    have weak : ∀ {b : Addr} {X : Addr → Prop}, (∀ a, (M a ∧ a ∉ b :: bs) → M a ∧ a ∉ bs) := fun {b X} a z => ⟨z.1, fun y => z.2 (List.mem_cons_of_mem _ y)⟩
    cases ho : isOwn d with
    | false =>
      refine ⟨bs, ?_, fun z => ?_, fun b hb => ?_⟩
      · rw [List.map_cons, demote_eq ho]
        exact repL_cons (by
          have hh := h1.rep ho
          exact (Rep.sub (fun a z => z.1) d v hh)) q1
      · rw [List.any_cons, Bool.or_eq_false_iff] at z
        exact q2 z.2
      · obtain ⟨x, ws, y, z⟩ := q3 b hb
        refine ⟨x, ws, y, ?_⟩
        rw [List.filterMap_cons]
        split
        · exact z
        · rw [List.contains_cons, z, Bool.or_true]
    | true =>
      cases d <;> first | cases ho | skip
      case own.refl ts =>
      obtain ⟨a, ws, e1, nc, s, rr⟩ := h1
      refine ⟨a :: bs, ?_, fun z => ?_, fun b hb => ?_⟩
      · rw [List.map_cons]
        refine repL_cons ?_ (RepL.sub (fun x z => ⟨z.1, fun y => z.2 (List.mem_cons_of_mem _ y)⟩) _ _ q1)
        show Rep K C _ H (.lst ts) v
        unfold Rep
        exact ⟨a, ws, e1, fun z => z.2 List.mem_cons_self, nc, s, RepL.sub (fun x z => z.1) _ _ rr⟩
      · rw [List.any_cons] at z
        cases z
      · rw [List.filterMap_cons]
        show b ∉ C ∧ ∃ ws : List V, H b = some (.lst ws) ∧ (ts.length :: ds.filterMap ownLen).contains ws.length = true
        rw [List.mem_cons] at hb
        rcases hb with hb | hb
        · rw [hb]
          exact ⟨nc, ws, s, by rw [rr.length, List.contains_cons, beq_self_eq_true, Bool.true_or]⟩
        · obtain ⟨x, us, y, z⟩ := q3 b hb
          exact ⟨x, us, y, by rw [List.contains_cons, z, Bool.or_true]⟩
theorem Pre.wide {M2 : Addr → Prop} (p : Pre K Tb C M H δ) (l : Le C H C' H') (p' : Pre K Tb C' M2 H' δ') (hc : ∀ (k : Nat) (ts : List D) (a : Addr), δ'[k]? = some ts → CellR K C' M2 H' a ts → CellR K C' M H' a ts) : Pre K Tb C' M H' δ' := by
  refine ⟨p'.tabs, p'.nd, p'.len, fun a ha z => ?_, fun a z => ?_, fun k ts e => ?_⟩
  · obtain ⟨xs, q, mo⟩ := p.mh a z
    by_cases h : a ∈ C
    · exact p.cm a h z
    · exact (l.new a ha h).not q mo.nt
  · obtain ⟨xs, q, mo⟩ := p.mh a z
    exact ⟨xs, l.ext a _ q (fun h => p.cm a h z) mo.nt, mo⟩
  · obtain ⟨a, e1, r⟩ := p'.cells k ts e
    exact ⟨a, e1, hc k ts a e r⟩
theorem Pre.sub {M2 : Addr → Prop} (p : Pre K Tb C M H δ) (hm : ∀ a, M2 a → M a) : Pre K Tb C M2 H δ :=
  ⟨p.tabs, p.nd, p.len, fun a h z => p.cm a h (hm a z), fun a z => p.mh a (hm a z), fun k ts e => by
    obtain ⟨a, e1, r⟩ := p.cells k ts e
    exact ⟨a, e1, r.map (fun _ _ h => h) (RepL.sub hm)⟩⟩
theorem Pre.scope (p : Pre K Tb C M H δ) (l : Le C H C' H') (p' : Pre K Tb C' M H' δ') (hn : (δ'.take δ.length).all noCellL = true) : Pre K Tb C M H' (δ'.take δ.length) ∧ Le C H C H' := by
  obtain ⟨more, e⟩ := l.pre
  have hc : ∀ a, a ∈ C → a ∈ C' := fun a h => l.mem h
  have hl : (δ'.take δ.length).length = δ.length := by
    rw [List.length_take, ← p'.len, e, List.length_append, p.len]; omega
  refine ⟨⟨p'.tabs, p.nd, by rw [hl]; exact p.len, fun a h => p'.cm a (hc a h), p'.mh, fun k ts ek => ?_⟩, ⟨[], by simp⟩, fun a h n => absurd h n, l.ext⟩
  have hk : k < δ.length := by rw [← hl]; exact (List.getElem?_eq_some_iff.mp ek).1
  have ek' : δ'[k]? = some ts := by rw [List.getElem?_take_of_lt hk] at ek; exact ek
  obtain ⟨a, e1, r⟩ := p'.cells k ts ek'
  refine ⟨a, ?_, CellR.anyC hc (List.all_eq_true.mp hn ts (List.mem_of_getElem? ek)) r⟩
  rw [e, List.getElem?_append_left (by rw [p.len]; exact hk)] at e1
  exact e1
theorem Pre.newCell {a : Addr} {ts : List D} {vs : List V} (p : Pre K Tb C (fun x => M x ∨ x = a) H δ) (na : a ∉ C) (nm : ¬ M a) (ni : insOf ts = none) (h : H a = some (.lst vs)) (r : RepL K C (fun x => M x ∨ x = a) H ts vs) : Pre K Tb (C ++ [a]) M H (δ ++ [ts]) := by
  have up := Rep.upC (K := K) (C := C) (M := M) (H := H) (a := a)
  refine ⟨p.tabs, List.nodup_append.mpr ⟨p.nd, by simp, fun x hx y hy => ?_⟩, by simp [p.len], fun x hx z => ?_, fun x z => p.mh x (.inl z), fun k us e => ?_⟩
  · rw [List.mem_singleton.mp hy]
    exact fun z => na (by rw [← z]; exact hx)
  · rcases List.mem_append.mp hx with hx | hx
    · exact p.cm x hx (.inl z)
    · rw [List.mem_singleton.mp hx] at z; exact nm z
  · by_cases hk : k < δ.length
    · rw [List.getElem?_append_left hk] at e
      obtain ⟨b, e1, r2⟩ := p.cells k us e
      exact ⟨b, by rw [List.getElem?_append_left (by rw [p.len]; exact hk)]; exact e1, r2.map (fun _ _ h => h) RepL.upC⟩
    · rw [List.getElem?_append_right (by omega)] at e
      have hk0 : k - δ.length = 0 := by
        have := (List.getElem?_eq_some_iff.mp e).1
        simp at this; omega
      rw [hk0] at e
      cases e
      refine ⟨a, ?_, CellR.mk ni h (RepL.upC _ _ r)⟩
      rw [List.getElem?_append_right (by rw [p.len]; omega), p.len, hk0]
      rfl
end
end Mini

namespace Mini
open PySem PySem.Spec PyProof.Rows L2
section
variable {K : PySem.W.Frag} {P : Par} {Er : Errs K P.X} {Tb : List (Addr × Str)} {Gv : Nat → V}
def uT (a : List Str) : List (Key × V) := tabK a (a.map fun _ => V.bl true)
theorem uT_eq : ∀ a : List Str, uT a = a.map fun s => (Sum.inr s, V.bl true)
  | [] => rfl
  | s :: a => by
    show (Sum.inr s, V.bl true) :: uT a = _
    rw [uT_eq a]; rfl
theorem uT_put (a : List Str) (s : Str) : putK (uT a) (Sum.inr s) (V.bl true) = uT (if a.contains s then a else a ++ [s]) := by
  rw [uT_eq]
  unfold putK
  have e1 : ((a.map fun s => ((Sum.inr s : Key), V.bl true)).any fun kv => decide (kv.1 = Sum.inr s)) = a.contains s := by
    rw [List.any_map]
    induction a with
    | nil => rfl
    | cons t a ih =>
      rw [List.any_cons, ih, List.contains_cons]
      congr 1
      show decide ((Sum.inr t : Key) = Sum.inr s) = (s == t)
      by_cases h : s = t
      · subst h; simp
      · have h2 : ¬ ((Sum.inr t : Key) = Sum.inr s) := fun z => h (Sum.inr.inj z).symm
        rw [decide_eq_false h2]
        exact (beq_eq_false_iff_ne.mpr h).symm
  rw [e1]
  by_cases h : a.contains s = true
  · rw [if_pos h, if_pos h, uT_eq, List.map_map]
    apply List.map_congr_left
    intro t _
    show (if (Sum.inr t : Key) = Sum.inr s then ((Sum.inr t : Key), V.bl true) else (Sum.inr t, V.bl true)) = _
    split <;> rfl
  · rw [if_neg h, if_neg h, uT_eq, List.map_append]
    rfl
theorem uT_len (a : List Str) : (uT a).length = a.length := by rw [uT_eq, List.length_map]
theorem un_write {C : List Addr} {M : Addr → Prop} {H : Hp} {δ : Dl} {D0 : Addr} {kv kv' : List (Key × V)} {C1 : List Addr} {H1 : Hp} (hD : H1 D0 = none) (l : Le C1 H1 C H) (p : Pre K Tb C (fun x => M x ∨ x = D0) H δ) (nD : D0 ∉ C) (h : H D0 = some (.dK kv)) :
    Le C1 H1 C (upd H D0 (.dK kv')) ∧ Pre K Tb C (fun x => M x ∨ x = D0) (upd H D0 (.dK kv')) δ := by
  have other : ∀ a o, H a = some o → a ≠ D0 → upd H D0 (.dK kv') a = some o := fun a o h n => by rw [upd_ne n]; exact h
  have cn : ∀ a, a ∈ C → a ≠ D0 := fun a ha z => nD (by rw [← z]; exact ha)
  have wr : Wr H (upd H D0 (.dK kv')) D0 := ⟨⟨_, h, CO.dK⟩, fun a o n h => other a o h n⟩
  have stepL : ∀ ts rs, RepL K C (fun x => M x ∨ x = D0) H ts rs → RepL K C (fun x => M x ∨ x = D0) (upd H D0 (.dK kv')) ts rs := RepL.wr (.inl (.inr rfl)) wr
  refine ⟨⟨l.pre, l.new, fun a o h n hn => ?_⟩, ⟨?_, p.nd, p.len, p.cm, fun a z => ?_, fun k ts e => ?_⟩⟩
  · exact other a o (l.ext a o h n hn) (ne_of_none h hD)
  · exact wr.tabs p.tabs
  · by_cases ha : a = D0
    · rw [ha]; exact ⟨_, upd_same, MO.dK⟩
    · obtain ⟨xs', q, mo⟩ := p.mh a z
      exact ⟨xs', other a _ q ha, mo⟩
  · obtain ⟨a, e1, r⟩ := p.cells k ts e
    exact ⟨a, e1, r.map (fun o _ e2 => other a _ e2 (cn a (List.mem_of_getElem? e1))) stepL⟩
theorem un_keep {C C' : List Addr} {H H' : Hp} {D0 : Addr} {kv : List (Key × V)} (l : Le C H C' H') (nD : D0 ∉ C) (h : H D0 = some (.dK kv)) : D0 ∉ C' ∧ H' D0 = some (.dK kv) :=
  ⟨l.notin h (fun ps z => by cases z) nD, l.ext _ _ h nD (fun ps z => by cases z)⟩
def Kp (K : PySem.W.Frag) (M : Addr → Prop) (C1 : List Addr) (H1 : Hp) (C : List Addr) (H : Hp) : Prop := ∀ d v, RepS K C1 M H1 d v → RepS K C M H d v
theorem Kp.refl {M : Addr → Prop} {C : List Addr} {H : Hp} : Kp K M C H C H := fun _ _ h => h
theorem Kp.trans {M : Addr → Prop} {C C1 C2 : List Addr} {H H1 H2 : Hp} (a : Kp K M C H C1 H1) (b : Kp K M C1 H1 C2 H2) : Kp K M C H C2 H2 := fun d v h => b d v (a d v h)
theorem Kp.le {M : Addr → Prop} {C C' : List Addr} {H H' : Hp} {δ : Dl} (p : Pre K Tb C M H δ) (l : Le C H C' H') : Kp K M C H C' H' := fun d v h => h.step p.cellH l fun a z => .inl z
theorem Kp.sl {M : Addr → Prop} {C C' : List Addr} {H H' : Hp} {σ : Sig} {σv : L2.St} (k : Kp K M C H C' H') (s : Sl K C M H σ σv) : Sl K C' M H' σ σv :=
  ⟨s.len, fun i d e => by obtain ⟨v, h1, h2⟩ := s.at_ i d e; exact ⟨v, h1, k d v h2⟩⟩
theorem Kp.rep {M : Addr → Prop} {C C' : List Addr} {H H' : Hp} (k : Kp K M C H C' H') {d : D} {v : V} (r : Rep K C M H d v) : Rep K C' M H' d v := (k d v r.repS).rep (own_no r)
theorem Kp.wr {M : Addr → Prop} {C : List Addr} {H : Hp} {D0 : Addr} {kv kv' : List (Key × V)} (hM : M D0) (h : H D0 = some (.dK kv)) : Kp K M C H C (upd H D0 (.dK kv')) := fun d v r => by
  have wr : Wr H (upd H D0 (.dK kv')) D0 := ⟨⟨_, h, CO.dK⟩, fun a o n h => by rw [upd_ne n]; exact h⟩
  cases d
  case own ts =>
    obtain ⟨a, vs, e, nc, q, r⟩ := r
    refine ⟨a, vs, e, nc, wr.oth a _ (fun z => ?_) q, RepL.wr (.inl hM) wr ts vs r⟩
    rw [z, h] at q; cases q
  all_goals exact Rep.wr (.inl hM) wr _ _ r
theorem unI_ok {J : It} {Gh : List (D × V)} {g : G} {ec ee : E} {vs : List Nat} {σ : Sig} {σv : L2.St} {C0 C1 : List Addr} {H0 H1 : Hp} {M : Addr → Prop} {δ1 : Dl} {xs : List D} {D0 : Addr} {Nx : Hp → Prop} {a0 a1 : List Str} {δ' : Dl} {n0 : Nat}
    (hc : Snd Er Tb Gv ec) (he : Snd Er Tb Gv ee) (w : Wk K Tb J Gh xs) (hg : ∀ i, i ∈ gSlots g → i ∈ vs)
    (hD : H0 D0 = none) (l0 : Le C0 H0 C1 H1) (p : Pre K Tb C1 (fun x => M x ∨ x = D0) H1 δ1) (s : Sl K C1 (fun x => M x ∨ x = D0) H1 σ σv) (gh : ∀ x, x ∈ Gh → Rep K C1 (fun x => M x ∨ x = D0) H1 x.1 x.2) (nD0 : D0 ∉ C1) (hD0 : H1 D0 = some (.dK (uT a0))) (hn : a0.length ≤ n0) (hz : n0 + xs.length < sizeLine)
    (e : unI g (evA' P ec).t (evA' P ee).v (wipeD σ vs) a0 xs δ1 = .ok a1 δ')
    (hd : ∀ C' H', Le C0 H0 C' H' → Kp K (fun x => M x ∨ x = D0) C1 H1 C' H' → Pre K Tb C' (fun x => M x ∨ x = D0) H' δ' → D0 ∉ C' → H' D0 = some (.dK (uT a1)) → a1.length ≤ n0 + xs.length → Nx H') :
    ∃ W1 : Nat → Nat → Hp → Prop, (∃ m, W1 0 m H1) ∧ ∀ j k H, W1 j k H →
      (J.stop j H ∧ Nx H) ∨ (J.go j H ∧ ∃ Nx1 : Hp → Prop, (∀ H', Nx1 H' → ∃ k', k' < k ∧ W1 (j + 1) k' H') ∧ ∀ x H', J.yld j H x H' → gK K g x (L2.wipe σv vs) H' fun σ3 H5 => L2.wipe σ3 vs = L2.wipe σv vs ∧ (rd P Er Tb Gv ec W0).t σ3 H5 fun b H6 =>
        if b = true then (rd P Er Tb Gv ee W0).v σ3 H6 fun y H7 => tC (.bl true) σ3 H7 fun z H8 => ∃ kvs k, y = kV k ∧ H8 D0 = some (.dK kvs) ∧ kvs.length < sizeLine ∧ Nx1 (upd H8 D0 (.dK (putK kvs k z))) else Nx1 H6) := by
  have nt : ∀ kv : List (Key × V), ∀ ps, (.dK kv : HO) ≠ .tbl ps := fun kv ps z => by cases z
  refine ⟨fun i m H => i ≤ xs.length ∧ m = xs.length - i ∧ ∃ C' δ a, Le C0 H0 C' H ∧ Kp K (fun x => M x ∨ x = D0) C1 H1 C' H ∧ Pre K Tb C' (fun x => M x ∨ x = D0) H δ ∧ D0 ∉ C' ∧ H D0 = some (.dK (uT a)) ∧ a.length ≤ n0 + i ∧
    unI g (evA' P ec).t (evA' P ee).v (wipeD σ vs) a (xs.drop i) δ = .ok a1 δ', ⟨xs.length, Nat.zero_le _, by simp, C1, δ1, a0, l0, Kp.refl, p, nD0, hD0, by omega, by simpa using e⟩, ?_⟩
  rintro i m H ⟨hi, rfl, C', δ, a, l, kp, p', nD, hDl, hws, ego⟩
  have wk := w C' _ H δ p' fun x hx => kp.rep (gh x hx)
  by_cases hlt : i < xs.length
  · refine .inr ⟨wk.1 i hlt, fun H' => i + 1 ≤ xs.length ∧ ∃ C' δ a, Le C0 H0 C' H' ∧ Kp K (fun x => M x ∨ x = D0) C1 H1 C' H' ∧ Pre K Tb C' (fun x => M x ∨ x = D0) H' δ ∧ D0 ∉ C' ∧ H' D0 = some (.dK (uT a)) ∧ a.length ≤ n0 + (i + 1) ∧
      unI g (evA' P ec).t (evA' P ee).v (wipeD σ vs) a (xs.drop (i + 1)) δ = .ok a1 δ', fun H' ⟨a, b⟩ => ⟨xs.length - (i + 1), by omega, a, rfl, b⟩, fun x H' y => ?_⟩
    obtain ⟨t, et, l2, p2, rt⟩ := wk.2.2 i x H' hlt y
    have ed : xs.drop i = t :: xs.drop (i + 1) := by
      obtain ⟨h1, h2⟩ := List.getElem?_eq_some_iff.mp et
      rw [← h2]; exact List.drop_eq_getElem_cons hlt
    rw [ed] at ego
    unfold unI at ego
    cases eg : setG g t (wipeD σ vs) with
    | none => rw [eg] at ego; cases ego
    | some σ2 =>
      rw [eg] at ego
      simp only at ego
      have s1 : Sl K C' (fun x => M x ∨ x = D0) H' (wipeD σ vs) (L2.wipe σv vs) := ((kp.sl s).le p' l2).wipe vs
      refine setG_ok eg rt.repS s1 fun σv2 s2 off => ?_
      refine ⟨?_, ?_⟩
      · rw [← wipe_wipe σv vs]
        exact wipe_same off.1 fun j hj => off.2 j fun z => hj (hg j z)
      · refine hc.t W0 C' _ σ2 δ σv2 H' _ p2 s2 ?_
        cases et2 : (evA' P ec).t σ2 δ with
        | ex c q d => rw [et2] at ego; cases ego
        | bad => rw [et2] at ego; cases ego
        | ok b δ3 =>
          rw [et2] at ego
          simp only [R.noex, R.bind] at ego
          intro C3 H3 l3 p3
          obtain ⟨nD2, hD2⟩ := un_keep l2 nD hDl
          obtain ⟨nD3, hD3⟩ := un_keep l3 nD2 hD2
          have kp3 := (kp.trans (Kp.le p' l2)).trans (Kp.le p2 l3)
          cases b with
          | false =>
            simp only [Bool.false_eq_true, if_false] at ego ⊢
            exact ⟨hlt, C3, δ3, a, (l.trans l2).trans l3, kp3, p3, nD3, hD3, by omega, ego⟩
          | true =>
            simp only [if_true] at ego ⊢
            refine he.v W0 C3 _ σ2 δ3 σv2 H3 _ p3 (s2.le p2 l3) ?_
            cases ee2 : (evA' P ee).v σ2 δ3 with
            | ex c q d => rw [ee2] at ego; cases ego
            | bad => rw [ee2] at ego; cases ego
            | ok y2 δ4 =>
              rw [ee2] at ego
              simp only [R.noex, R.bind] at ego
              cases y2 <;> first | cases ego | skip
              case str sk =>
              simp only at ego
              intro C4 H4 l4 p4 vy ry _
              obtain ⟨nD4, hD4⟩ := un_keep l4 nD3 hD3
              refine ⟨uT a, Sum.inr sk, rep_str (ry.rep rfl), hD4, by rw [uT_len]; omega, hlt, ?_⟩
              obtain ⟨l5, p5⟩ := un_write (kv' := putK (uT a) (Sum.inr sk) (V.bl true)) hD (((l.trans l2).trans l3).trans l4) p4 nD4 hD4
              refine ⟨C4, δ4, if a.contains sk then a else a ++ [sk], l5, (kp3.trans (Kp.le p3 l4)).trans (Kp.wr (.inr rfl) hD4), p5, nD4, by rw [upd_same, uT_put], ?_, ego⟩
              split
              · omega
              · rw [List.length_append, List.length_singleton]; omega
  · have ei : i = xs.length := by omega
    subst ei
    rw [List.drop_length] at ego
    cases ego
    exact .inl ⟨wk.2.1, hd C' H l kp p' nD hDl hws⟩
theorem unO_ok {J : It} {Gh : List (D × V)} {g g1 : G} {k1 : IK} {ec ei1 ec1 ee : E} {vs vs1 : List Nat} {σ : Sig} {σv : L2.St} {C1 : List Addr} {H1 : Hp} {M : Addr → Prop} {δ1 : Dl} {xs : List D} {D0 : Addr} {Qd : Hp → Prop} {a1 : List Str} {δ' : Dl}
    (hc : Snd Er Tb Gv ec) (hi1 : Snd Er Tb Gv ei1) (hc1 : Snd Er Tb Gv ec1) (he : Snd Er Tb Gv ee) (w : Wk K Tb J Gh xs) (hg : ∀ i, i ∈ gSlots g → i ∈ vs) (hg1 : ∀ i, i ∈ gSlots g1 → i ∈ vs1) (hz : xs.length ≤ 1000)
    (p : Pre K Tb C1 M H1 δ1) (s : Sl K C1 M H1 σ σv) (gh : ∀ x, x ∈ Gh → Rep K C1 M H1 x.1 x.2) (hD : H1 D0 = none)
    (e : unO g (evA' P ec).t (unF k1 vs1 g1 (evA' P ei1).a (evA' P ec1).t (evA' P ee).v) (wipeD σ vs) [] xs δ1 = .ok a1 δ')
    (hd : ∀ C' H', Le C1 H1 C' H' → Pre K Tb C' (fun x => M x ∨ x = D0) H' δ' → D0 ∉ C' → H' D0 = some (.dK (uT a1)) → Qd H') :
    ∃ W : Nat → Nat → Hp → Prop, (∃ m, W 0 m (upd H1 D0 (.dK []))) ∧ ∀ i m H, W i m H →
      (J.stop i H ∧ Qd H) ∨ (J.go i H ∧ ∃ Nx : Hp → Prop, (∀ H', Nx H' → ∃ m', m' < m ∧ W (i + 1) m' H') ∧ ∀ x H', J.yld i H x H' → gK K g x (L2.wipe σv vs) H' fun σ2 H2 => L2.wipe σ2 vs = L2.wipe σv vs ∧ (rd P Er Tb Gv ec W0).t σ2 H2 fun b H3 =>
        if b = true then rI (K := K) k1 (rd P Er Tb Gv ei1 W0).a σ2 H3 fun J1 H4 => ∃ W1 : Nat → Nat → Hp → Prop, (∃ m, W1 0 m H4) ∧ ∀ j k H, W1 j k H →
          (J1.stop j H ∧ Nx H) ∨ (J1.go j H ∧ ∃ Nx1 : Hp → Prop, (∀ H', Nx1 H' → ∃ k', k' < k ∧ W1 (j + 1) k' H') ∧ ∀ x H', J1.yld j H x H' → gK K g1 x (L2.wipe σ2 vs1) H' fun σ3 H5 => L2.wipe σ3 vs1 = L2.wipe σ2 vs1 ∧ (rd P Er Tb Gv ec1 W0).t σ3 H5 fun b H6 =>
            if b = true then (rd P Er Tb Gv ee W0).v σ3 H6 fun y H7 => tC (.bl true) σ3 H7 fun z H8 => ∃ kvs k, y = kV k ∧ H8 D0 = some (.dK kvs) ∧ kvs.length < sizeLine ∧ Nx1 (upd H8 D0 (.dK (putK kvs k z))) else Nx1 H6)
        else Nx H3) := by
  obtain ⟨f1, f2⟩ := p.fresh hD
  have hm : ∀ x, (M x ∨ x = D0) → M x ∨ NT H1 x := fun x z => z.elim .inl fun e => .inr (by rw [e]; exact NT.of_none hD)
  refine ⟨fun i m H => i ≤ xs.length ∧ m = xs.length - i ∧ ∃ C' δ a, Le C1 H1 C' H ∧ (∀ d v, RepS K C1 M H1 d v → RepS K C' (fun x => M x ∨ x = D0) H d v) ∧ Pre K Tb C' (fun x => M x ∨ x = D0) H δ ∧ D0 ∉ C' ∧ H D0 = some (.dK (uT a)) ∧ a.length ≤ i * 1000 ∧
    unO g (evA' P ec).t (unF k1 vs1 g1 (evA' P ei1).a (evA' P ec1).t (evA' P ee).v) (wipeD σ vs) a (xs.drop i) δ = .ok a1 δ', ⟨xs.length, Nat.zero_le _, by simp, ?_⟩, ?_⟩
  · have u := upd_all (o := .dK []) hD
    have p1 := p.all u
    refine ⟨C1, δ1, [], le_of_all u, fun d v r => r.step p.cellH (le_of_all u) hm, ⟨p1.tabs, p1.nd, p1.len, fun x hx z => ?_, fun x z => ?_, fun k us e => ?_⟩, f2, upd_same, by simp, by simpa using e⟩
    · rcases z with z | z
      · exact p.cm x hx z
      · rw [z] at hx; exact f2 hx
    · rcases z with z | z
      · exact p1.mh x z
      · rw [z]; exact ⟨_, upd_same, MO.dK⟩
    · obtain ⟨b, e1, r2⟩ := p.cells k us e
      exact ⟨b, e1, r2.map (fun o _ => u b o) (RepL.step p.cellH (le_of_all u) hm)⟩
  · rintro i m H ⟨hi, rfl, C', δ, a, l, kp, p', nD, hDl, hws, ego⟩
    have wk := w C' _ H δ p' fun x hx => (kp _ _ (gh x hx).repS).rep (own_no (gh x hx))
    by_cases hlt : i < xs.length
    · refine .inr ⟨wk.1 i hlt, fun H' => i + 1 ≤ xs.length ∧ ∃ C' δ a, Le C1 H1 C' H' ∧ (∀ d v, RepS K C1 M H1 d v → RepS K C' (fun x => M x ∨ x = D0) H' d v) ∧ Pre K Tb C' (fun x => M x ∨ x = D0) H' δ ∧ D0 ∉ C' ∧ H' D0 = some (.dK (uT a)) ∧ a.length ≤ (i + 1) * 1000 ∧
        unO g (evA' P ec).t (unF k1 vs1 g1 (evA' P ei1).a (evA' P ec1).t (evA' P ee).v) (wipeD σ vs) a (xs.drop (i + 1)) δ = .ok a1 δ', fun H' ⟨a, b⟩ => ⟨xs.length - (i + 1), by omega, a, rfl, b⟩, fun x H' y => ?_⟩
      obtain ⟨t, et, l2, p2, rt⟩ := wk.2.2 i x H' hlt y
      have ed : xs.drop i = t :: xs.drop (i + 1) := by
        obtain ⟨h1, h2⟩ := List.getElem?_eq_some_iff.mp et
        rw [← h2]; exact List.drop_eq_getElem_cons hlt
      rw [ed] at ego
      unfold unO at ego
      cases eg : setG g t (wipeD σ vs) with
      | none => rw [eg] at ego; cases ego
      | some σ2 =>
        rw [eg] at ego
        simp only at ego
        have s0 : Sl K C' (fun x => M x ∨ x = D0) H σ σv := ⟨s.len, fun i d e => by obtain ⟨v, h1, h2⟩ := s.at_ i d e; exact ⟨v, h1, kp d v h2⟩⟩
        have s1 : Sl K C' (fun x => M x ∨ x = D0) H' (wipeD σ vs) (L2.wipe σv vs) := (s0.le p' l2).wipe vs
        refine setG_ok eg rt.repS s1 fun σv2 s2 off => ?_
        refine ⟨?_, ?_⟩
        · rw [← wipe_wipe σv vs]
          exact wipe_same off.1 fun j hj => off.2 j fun z => hj (hg j z)
        · refine hc.t W0 C' _ σ2 δ σv2 H' _ p2 s2 ?_
          cases et2 : (evA' P ec).t σ2 δ with
          | ex c q d => rw [et2] at ego; cases ego
          | bad => rw [et2] at ego; cases ego
          | ok b δ3 =>
            rw [et2] at ego
            simp only [R.noex, R.bind] at ego
            intro C3 H3 l3 p3
            obtain ⟨nD2, hD2⟩ := un_keep l2 nD hDl
            obtain ⟨nD3, hD3⟩ := un_keep l3 nD2 hD2
            have kp3 : ∀ d v, RepS K C1 M H1 d v → RepS K C3 (fun x => M x ∨ x = D0) H3 d v := fun d v r => Kp.le p2 l3 d v (Kp.le p' l2 d v (kp d v r))
            cases b with
            | false =>
              simp only [Bool.false_eq_true, if_false] at ego ⊢
              exact ⟨hlt, C3, δ3, a, (l.trans l2).trans l3, kp3, p3, nD3, hD3, by omega, ego⟩
            | true =>
              simp only [if_true] at ego ⊢
              cases eF : unF k1 vs1 g1 (evA' P ei1).a (evA' P ec1).t (evA' P ee).v σ2 a δ3 with
              | ex c q d => rw [eF] at ego; cases ego
              | bad => rw [eF] at ego; cases ego
              | ok a2 δ5 =>
              rw [eF] at ego
              simp only [R.noex, R.bind] at ego
              unfold unF at eF
              refine hi1.a W0 C3 _ σ2 δ3 σv2 H3 _ p3 (s2.le p2 l3) ?_
              cases ee2 : (evA' P ei1).a σ2 δ3 with
              | ex c q d => rw [ee2] at eF; cases eF
              | bad => rw [ee2] at eF; cases eF
              | ok ds δ4 =>
                rw [ee2] at eF
                simp only [R.bind] at eF
                intro C4 H4 l4 p4 us r
                obtain ⟨nD4, hD4⟩ := un_keep l4 nD3 hD3
                cases ei : itemsD δ4 k1 ds with
                | none => rw [ei] at eF; cases eF
                | some xs1 =>
                  rw [ei] at eF
                  simp only at eF
                  split at eF
                  · cases eF
                  rename_i hle
                  obtain ⟨Gh1, J1, gh1, w1, fin⟩ := items_ok (Tb := Tb) ei r
                  refine fin _ ?_
                  have kp4 : ∀ d v, RepS K C1 M H1 d v → RepS K C4 (fun x => M x ∨ x = D0) H4 d v := fun d v r => Kp.le p3 l4 d v (kp3 d v r)
                  have hle : xs1.length ≤ 1000 := by
                    rw [decide_eq_true_eq] at hle; omega
                  refine unI_ok hc1 he w1 hg1 hD (((l.trans l2).trans l3).trans l4) p4 ((s2.le p2 l3).le p3 l4) gh1 nD4 hD4 hws (by rw [sizeLine_eq]; omega) eF fun C' H' l5 kp5 p5 nD5 hD5 hn5 => ?_
                  exact ⟨hlt, C', δ5, a2, l5, fun d v r => kp5 d v (kp4 d v r), p5, nD5, hD5, by omega, ego⟩
    · have ei : i = xs.length := by omega
      subst ei
      rw [List.drop_length] at ego
      cases ego
      exact .inl ⟨wk.2.1, hd C' H l p' nD hDl⟩
theorem unO_noex (g : G) (c : Sig → Dl → R Bool) (f : Sig → List Str → Dl → R (List Str)) (σw : Sig) : ∀ (xs : List D) (a : List Str) (δ : Dl) {c' : Str} {pl : List D} {d : Dl}, unO g c f σw a xs δ ≠ .ex c' pl d
  | [], a, δ, _, _, _ => fun z => by cases z
  | x :: xs, a, δ, c', pl, d => fun z => by
    unfold unO at z
    split at z
    · cases z
    · rename_i σ2 _
      cases h1 : c σ2 δ with
      | bad => rw [h1] at z; cases z
      | ex _ _ _ => rw [h1] at z; cases z
      | ok k δ1 =>
        rw [h1] at z
        simp only [R.noex, R.bind] at z
        split at z
        · cases h2 : f σ2 a δ1 with
          | bad => rw [h2] at z; cases z
          | ex _ _ _ => rw [h2] at z; cases z
          | ok y δ2 =>
            rw [h2] at z
            simp only at z
            exact unO_noex g c f σw xs y δ2 z
        · exact unO_noex g c f σw xs a δ1 z
theorem snd_uni {vs vs1 : List Nat} {g g1 : G} {k k1 : IK} {it ec it1 ec1 ee : E} (hi : Snd Er Tb Gv it) (hc : Snd Er Tb Gv ec) (hi1 : Snd Er Tb Gv it1) (hc1 : Snd Er Tb Gv ec1) (he : Snd Er Tb Gv ee) : Snd Er Tb Gv (.uni vs g k it ec vs1 g1 k1 it1 ec1 ee) := by
  refine Snd.val rfl (fun W => rfl) fun W C M σ δ σv H Q p s q => ?_
  refine hi.a W C M σ δ σv H _ p s (RPost.mono (RPost.bind q) fun ds δ1 C1 H1 l1 p1 q1 us r => ?_)
  cases ei : itemsD δ1 k ds with
  | none => rw [ei] at q1; exact q1.elim
  | some xs =>
    rw [ei] at q1
    simp only at q1
    split at q1
    · exact q1.elim
    · rename_i hn
      rw [Bool.or_eq_true, not_or, Bool.or_eq_true, not_or, decide_eq_true_eq, Bool.not_eq_true, Bool.not_eq_false', Bool.not_eq_true, Bool.not_eq_false'] at hn
      obtain ⟨Gh, J, gh, w, fin⟩ := items_ok (Tb := Tb) ei r
      refine fin _ fun Dd hD => ?_
      have hg : ∀ i, i ∈ gSlots g → i ∈ vs := fun i hi => by simpa using List.all_eq_true.mp hn.1.2 i hi
      have hg1 : ∀ i, i ∈ gSlots g1 → i ∈ vs1 := fun i hi => by simpa using List.all_eq_true.mp hn.2 i hi
      have q1 : RPost Er Tb C1 M H1 ((unO g (evA' P ec).t (unF k1 vs1 g1 (evA' P it1).a (evA' P ec1).t (evA' P ee).v) (wipeD σ vs) [] xs δ1).bind fun ks δ =>
        .ok (.tab ks (ks.map fun _ => .bl true)) δ) (fun d δ' C' H' => ∀ x, RepS K C' M H' d x → (isFresh (.uni vs g k it ec vs1 g1 k1 it1 ec1 ee) = true → Frs K Tb M H C' H' δ' d x) → Q x H') (wx W σv) := q1
      cases eg : (unO g (evA' P ec).t (unF k1 vs1 g1 (evA' P it1).a (evA' P ec1).t (evA' P ee).v) (wipeD σ vs) [] xs δ1) with
      | bad => rw [eg] at q1; exact q1.elim
      | ex c pl d => exact absurd eg (unO_noex _ _ _ _ _ _ _)
      | ok ks δ2 =>
        rw [eg] at q1
        have q2 : RPost Er Tb C1 M H1 (R.ok (D.tab ks (ks.map fun _ => .bl true)) δ2) (fun d δ' C' H' => ∀ x, RepS K C' M H' d x → (isFresh (.uni vs g k it ec vs1 g1 k1 it1 ec1 ee) = true → Frs K Tb M H C' H' δ' d x) → Q x H') (wx W σv) := q1
        refine unO_ok hc hi1 hc1 he w hg hg1 (by omega) p1 (s.le p l1) gh hD eg fun C' H' l p' nD hd => ?_
        have pM : Pre K Tb C' M H' δ2 := p'.sub fun a z => .inl z
        refine q2 C' H' l pM (.ref Dd) ?_ (no_of rfl)
        show Rep K _ _ _ _ _
        unfold Rep
        refine ⟨Dd, ks.map fun _ => V.bl true, rfl, (p1.fresh hD).1, nD, hd, ?_⟩
        clear eg q1 q2 hd
        induction ks with
        | nil => exact repL_nil
        | cons k ks ih => exact repL_cons mk_bl ih
end
end Mini

namespace Mini
open PySem PySem.Spec PyProof.Rows L2
section
variable {K : PySem.W.Frag} {P : Par} {Er : Errs K P.X} {Tb : List (Addr × Str)} {Gv : Nat → V}
theorem inl_ {M : Addr → Prop} {H : Hp} : ∀ a, M a → M a ∨ NT H a := fun a z => .inl z
theorem Snd.ofB {e : E} {f : Sig → Dl → R Bool} {g : WX → TE} (h1 : evA' P e = Ev.ofB f) (h2 : ∀ W, rd P Er Tb Gv e W = Rd.tst (g W) (tTest (g W))) (hf : isFresh e = false)
    (h : ∀ (W : WX) (C : List Addr) (M : Addr → Prop) (σ : Sig) (δ : Dl) (σv : L2.St) (H : Hp) (Q : VK), Pre K Tb C M H δ → Sl K C M H σ σv →
      RPost Er Tb C M H (f σ δ) (fun k _ _ H' => Q (.bl k) H') (wx W σv) → g W σv H Q) : Snd Er Tb Gv e := by
  refine Snd.tst (f := fun σ δ => (f σ δ).bind fun k δ => .ok (.bl k) δ) (f' := f) h1 h2 (fun W C M σ δ σv H Q p s q => ?_) (fun W C M σ δ σv H Q p s q => ?_)
  · exact h W C M σ δ σv H Q p s (RPost.mono (RPost.bind q) fun k δ' C' H' l p' q' => RPost.here p' q' (.bl k) mk_bl.repS (no_of hf))
  · exact h W C M σ δ σv H _ p s (RPost.mono q fun k δ' C' H' l p' q' => ⟨k, rfl, q'⟩)
variable {a b c : E}
theorem snd_two (ha : Snd Er Tb Gv a) (hb : Snd Er Tb Gv b) {α : Type} {f : D → D → Dl → R α} {W : WX} {C : List Addr} {M : Addr → Prop} {σ : Sig} {δ : Dl} {σv : L2.St} {H : Hp} {Qok : α → Dl → List Addr → Hp → Prop} {R2_ : V → V → Hp → Prop}
    (p : Pre K Tb C M H δ) (s : Sl K C M H σ σv) (q : RPost Er Tb C M H (((evA' P a).v σ δ).bind fun x δ => ((evA' P b).v σ δ).bind fun y δ => f x y δ) Qok (wx W σv))
    (h : ∀ x y δ' C' H' u v, Le C H C' H' → Pre K Tb C' M H' δ' → Sl K C' M H' σ σv → RepS K C' M H' x u → RepS K C' M H' y v → RPost Er Tb C' M H' (f x y δ') Qok (wx W σv) → R2_ u v H') :
    (rd P Er Tb Gv a W).v σv H fun u H1 => (rd P Er Tb Gv b W).v σv H1 fun v H2 => R2_ u v H2 := by
  refine ha.v W C M σ δ σv H _ p s (RPost.mono (RPost.bind q) fun x δ' C' H' l p' q' u ru _ => ?_)
  refine hb.v W C' M σ δ' σv H' _ p' (s.le p l) (RPost.mono (RPost.bind q') fun y δ2 C2 H2 l2 p2 q2 v rv _ => ?_)
  exact h x y δ2 C2 H2 u v (l.trans l2) p2 (s.le p (l.trans l2)) (ru.step p'.cellH l2 inl_) rv q2
theorem snd_bin {o : Operator} (ha : Snd Er Tb Gv a) (hb : Snd Er Tb Gv b) : Snd Er Tb Gv (.bin o a b) := by
  refine Snd.val rfl (fun W => rfl) fun W C M σ δ σv H Q p s q => ?_
  refine snd_two (R2_ := fun u v H2 => rBin K o u v H2 Q) ha hb p s q fun x y δ2 C2 H2 u v l p2 s2 ru rv q2 => ?_
  cases e : binD o x y with
  | none => rw [e] at q2; exact q2.elim
  | some z =>
    rw [e] at q2
    exact bin_ok p2 e ru rv (fr := isFresh (.bin o a b)) trivial (post_of l q2)
theorem snd_fdv (ha : Snd Er Tb Gv a) (hb : Snd Er Tb Gv b) : Snd Er Tb Gv (.fdv a b) := by
  refine Snd.val rfl (fun W => rfl) fun W C M σ δ σv H Q p s q => ?_
  refine snd_two (R2_ := fun u v H2 => rFdv u v H2 Q) ha hb p s q fun x y δ2 C2 H2 u v l p2 s2 ru rv q2 => ?_
  obtain ⟨z, e, q3⟩ := RPost.of p2 q2
  unfold fdvD at e
  split at e
  · split at e
    · cases e
    · rename_i hn
      cases e
      exact ⟨_, _, rep_int (ru.rep rfl), rep_int (rv.rep rfl), hn, q3 _ mk_int.repS (no_of rfl)⟩
  · cases e
theorem snd_cmp {o : CmpOp} (ha : Snd Er Tb Gv a) (hb : Snd Er Tb Gv b) : Snd Er Tb Gv (.cmp o a b) := by
  refine Snd.ofB rfl (fun W => rfl) rfl fun W C M σ δ σv H Q p s q => ?_
  refine snd_two (R2_ := fun u v H2 => rCmp K o u v H2 Q) ha hb p s q fun x y δ2 C2 H2 u v l p2 s2 ru rv q2 => ?_
  obtain ⟨k, e, q3⟩ := RPost.of p2 q2
  exact cmp_ok e ru rv q3
theorem snd_chain {o o' : CmpOp} (ha : Snd Er Tb Gv a) (hb : Snd Er Tb Gv b) (hc : Snd Er Tb Gv c) : Snd Er Tb Gv (.chain o o' a b c) := by
  refine Snd.ofB rfl (fun W => rfl) rfl fun W C M σ δ σv H Q p s q => ?_
  refine snd_two (R2_ := fun u v H2 => rCmp K o u v H2 fun z H3 => ∃ k, z = .bl k ∧ (if k = true then (rd P Er Tb Gv c W).v σv H3 fun w' H4 => rCmp K o' v w' H4 Q else Q (.bl false) H3)) ha hb p s q fun x y δ2 C2 H2 u v l p2 s2 ru rv q2 => ?_
  obtain ⟨k, e, q3⟩ := RPost.of p2 (RPost.bind q2)
  refine cmp_ok e ru rv ⟨k, rfl, ?_⟩
  cases k with
  | false =>
    rw [if_neg Bool.false_ne_true] at q3 ⊢
    exact RPost.here p2 q3
  | true =>
    rw [if_pos rfl] at q3 ⊢
    refine hc.v W C2 M σ δ2 σv H2 _ p2 s2 (RPost.mono (RPost.bind q3) fun z δ3 C3 H3 l3 p3 q4 w rw_ _ => ?_)
    obtain ⟨k', e', q5⟩ := RPost.of p3 q4
    exact cmp_ok e' (rv.step p2.cellH l3 inl_) rw_ q5
theorem snd_and (ha : Snd Er Tb Gv a) (hb : Snd Er Tb Gv b) : Snd Er Tb Gv (.and a b) := by
  refine Snd.tst rfl (fun W => rfl) (fun W C M σ δ σv H Q p s q => ?_) (fun W C M σ δ σv H Q p s q => ?_)
  · refine ha.v W C M σ δ σv H _ p s (RPost.mono (RPost.bind q) fun x δ' C' H' l p' q' u ru _ => ?_)
    obtain ⟨k, e, q3⟩ := RPost.of p' (RPost.bind q')
    refine ⟨k, tru_ok e ru, ?_⟩
    cases k with
    | false =>
      rw [if_neg Bool.false_ne_true] at q3 ⊢
      exact RPost.here p' q3 u ru (no_of rfl)
    | true =>
      rw [if_pos rfl] at q3 ⊢
      exact hb.v W C' M σ δ' σv H' _ p' (s.le p l) (RPost.mono q3 fun z δ3 C3 H3 l3 p3 q4 w rw_ _ => q4 w rw_ (no_of rfl))
  · refine ha.t W C M σ δ σv H _ p s (RPost.mono (RPost.bind q) fun k δ' C' H' l p' q' => ?_)
    cases k with
    | false =>
      simp only [Bool.false_eq_true, if_false] at q' ⊢
      exact RPost.here p' q'
    | true =>
      simp only [if_true] at q' ⊢
      exact hb.t W C' M σ δ' σv H' _ p' (s.le p l) q'
theorem snd_or (ha : Snd Er Tb Gv a) (hb : Snd Er Tb Gv b) : Snd Er Tb Gv (.or a b) := by
  refine Snd.tst rfl (fun W => rfl) (fun W C M σ δ σv H Q p s q => ?_) (fun W C M σ δ σv H Q p s q => ?_)
  · refine ha.v W C M σ δ σv H _ p s (RPost.mono (RPost.bind q) fun x δ' C' H' l p' q' u ru _ => ?_)
    obtain ⟨k, e, q3⟩ := RPost.of p' (RPost.bind q')
    refine ⟨k, tru_ok e ru, ?_⟩
    cases k with
    | false =>
      rw [if_neg Bool.false_ne_true] at q3 ⊢
      exact hb.v W C' M σ δ' σv H' _ p' (s.le p l) (RPost.mono q3 fun z δ3 C3 H3 l3 p3 q4 w rw_ _ => q4 w rw_ (no_of rfl))
    | true =>
      rw [if_pos rfl] at q3 ⊢
      exact RPost.here p' q3 u ru (no_of rfl)
  · refine ha.t W C M σ δ σv H _ p s (RPost.mono (RPost.bind q) fun k δ' C' H' l p' q' => ?_)
    cases k with
    | false =>
      simp only [Bool.false_eq_true, if_false] at q' ⊢
      exact hb.t W C' M σ δ' σv H' _ p' (s.le p l) q'
    | true =>
      simp only [if_true] at q' ⊢
      exact RPost.here p' q'
theorem snd_not (ha : Snd Er Tb Gv a) : Snd Er Tb Gv (.not a) := by
  refine Snd.tst rfl (fun W => rfl) (fun W C M σ δ σv H Q p s q => ?_) (fun W C M σ δ σv H Q p s q => ?_)
  · refine ha.v W C M σ δ σv H _ p s (RPost.mono (RPost.bind q) fun x δ' C' H' l p' q' u ru _ => ?_)
    obtain ⟨k, e, q3⟩ := RPost.of p' (RPost.bind q')
    exact ⟨k, tru_ok e ru, RPost.here p' q3 _ mk_bl.repS (no_of rfl)⟩
  · exact ha.t W C M σ δ σv H _ p s (RPost.mono (RPost.bind q) fun k δ' C' H' l p' q' => RPost.here p' q')
theorem snd_ite (hc : Snd Er Tb Gv c) (ha : Snd Er Tb Gv a) (hb : Snd Er Tb Gv b) : Snd Er Tb Gv (.ite c a b) := by
  refine Snd.tst rfl (fun W => rfl) (fun W C M σ δ σv H Q p s q => ?_) (fun W C M σ δ σv H Q p s q => q.elim)
  refine hc.t W C M σ δ σv H _ p s (RPost.mono (RPost.bind q) fun k δ' C' H' l p' q' => ?_)
  cases k with
  | false =>
    simp only [Bool.false_eq_true, if_false] at q' ⊢
    exact hb.v W C' M σ δ' σv H' _ p' (s.le p l) (RPost.mono q' fun z δ3 C3 H3 l3 p3 q4 w rw_ _ => q4 w rw_ (no_of rfl))
  | true =>
    simp only [if_true] at q' ⊢
    exact ha.v W C' M σ δ' σv H' _ p' (s.le p l) (RPost.mono q' fun z δ3 C3 H3 l3 p3 q4 w rw_ _ => q4 w rw_ (no_of rfl))
theorem snd_neg (ha : Snd Er Tb Gv a) : Snd Er Tb Gv (.neg a) := by
  refine Snd.val rfl (fun W => rfl) fun W C M σ δ σv H Q p s q => ?_
  refine ha.v W C M σ δ σv H _ p s (RPost.mono (RPost.bind q) fun x δ' C' H' l p' q' u ru _ => ?_)
  obtain ⟨z, e, q3⟩ := RPost.of p' q'
  cases x <;> simp only [negD] at e <;> cases e
  exact ⟨_, rep_int (ru.rep rfl), q3 _ mk_int.repS (no_of rfl)⟩
theorem snd_tup (ha : Snd Er Tb Gv a) : Snd Er Tb Gv (.tup a) := by
  refine Snd.val rfl (fun W => rfl) fun W C M σ δ σv H Q p s q => ?_
  refine ha.a W C M σ δ σv H _ p s (RPost.mono (RPost.bind q) fun ds δ' C' H' l p' q' vs r => ?_)
  unfold seqE at q'
  split at q'
  · exact q'.elim
  · rename_i hn
    rw [Bool.or_eq_true, not_or, Bool.not_eq_true, decide_eq_true_eq] at hn
    exact ⟨by rw [r.length, sizeLine_eq]; omega, (post_of (fr := false) l (fun C' H' l p x r _ => q' C' H' l p x r (no_of rfl))).tup p' (r.repL hn.1)⟩
theorem snd_lst (ha : Snd Er Tb Gv a) : Snd Er Tb Gv (.lst a) := by
  refine Snd.val rfl (fun W => rfl) fun W C M σ δ σv H Q p s q => ?_
  refine ha.a W C M σ δ σv H _ p s (RPost.mono (RPost.bind q) fun ds δ' C' H' l p' q' vs r => ?_)
  unfold seqE at q'
  split at q'
  · exact q'.elim
  · rename_i hn
    rw [Bool.or_eq_true, not_or, Bool.not_eq_true, decide_eq_true_eq] at hn
    exact ⟨by rw [r.length, sizeLine_eq]; omega, (post_of (fr := true) l q').lst p' (r.repL hn.1)⟩
theorem snd_idx (ha : Snd Er Tb Gv a) (hb : Snd Er Tb Gv b) : Snd Er Tb Gv (.idx a b) := by
  refine Snd.val rfl (fun W => rfl) fun W C M σ δ σv H Q p s q => ?_
  refine snd_two (R2_ := fun u v H2 => rIx2 K u v H2 Q) ha hb p s q fun x y δ2 C2 H2 u v l p2 s2 ru rv q2 => ?_
  obtain ⟨z, e, q3⟩ := RPost.of p2 q2
  exact idx_ok p2 e ru rv fun w rw_ => q3 w rw_.repS (no_of rfl)
theorem ls_of {x : D} (h : (mlst x).isSome = true) : ∃ ts, x = .lst ts ∨ x = .own ts := by
  cases x <;> first | cases h | skip
  case lst ts => exact ⟨ts, .inl rfl⟩
  case own ts => exact ⟨ts, .inr rfl⟩
theorem snd_cnt (ha : Snd Er Tb Gv a) (hb : Snd Er Tb Gv b) : Snd Er Tb Gv (.cnt a b) := by
  refine Snd.val rfl (fun W => rfl) fun W C M σ δ σv H Q p s q => ?_
  refine ha.v W C M σ δ σv H _ p s (RPost.mono (RPost.bind q) fun x δ' C' H' l p' q' u ru _ => ?_)
  split at q'
  · rename_i hl
    obtain ⟨ts, et⟩ := ls_of hl
    obtain ⟨ad, vs, e1, e2, e3⟩ := mlst_rep ru et
    refine ⟨by rw [e1]; exact .inl ⟨rfl, vs, SqL.of e2⟩, ?_⟩
    refine hb.v W C' M σ δ' σv H' _ p' (s.le p l) (RPost.mono (RPost.bind q') fun y δ2 C2 H2 l2 p2 q2 v rv _ => ?_)
    obtain ⟨z, e, q3⟩ := RPost.of p2 q2
    have ru2 := ru.step p'.cellH l2 inl_
    obtain ⟨ad2, vs2, g1, g2, g3⟩ := mlst_rep ru2 et
    unfold cntD at e
    split at e
    · rename_i ds d q4 q5
      split at e
      · rename_i hs
        rw [Bool.and_eq_true] at hs
        cases e
        have d1 := dpS_of ru2 q4
        rw [g1] at d1
        exact ⟨ad2, v, d, ds, g1, rfl, d1, dpS_of rv q5, hs.1, hs.2, q3 _ mk_int.repS (no_of rfl)⟩
      · cases e
    · cases e
  · exact q'.elim
theorem srt_rep {C : List Addr} {M : Addr → Prop} {H : Hp} {k : Bool} : ∀ {ts : List D} {vs : List V} {rows : List (List Int)}, RepL K C M H ts vs → ts.length = rows.length → RepL K C M H (((ts.zip rows).mergeSort fun p q => leI k p.2 q.2).map (·.1)) (SK.srtV k vs rows) := fun {ts vs rows} r hl => by
  have e1 : ts.zip rows = ((ts.zip vs).zip rows).map fun p => (p.1.1, p.2) := by
    have hv := r.length
    clear r
    induction ts generalizing vs rows with
    | nil => cases rows <;> cases vs <;> rfl
    | cons t ts ih =>
      cases vs with
      | nil => simp at hv
      | cons v vs =>
        cases rows with
        | nil => rfl
        | cons r rows =>
          show (t, r) :: ts.zip rows = (t, r) :: ((ts.zip vs).zip rows).map fun p => (p.1.1, p.2)
          rw [ih (by simpa using hl) (by simpa using hv)]
  have e2 : vs.zip rows = ((ts.zip vs).zip rows).map fun p => (p.1.2, p.2) := by
    have hv := r.length
    clear r e1
    induction ts generalizing vs rows with
    | nil => cases rows <;> cases vs <;> first | rfl | (simp at hv)
    | cons t ts ih =>
      cases vs with
      | nil => rfl
      | cons v vs =>
        cases rows with
        | nil => rfl
        | cons r rows =>
          show (v, r) :: vs.zip rows = (v, r) :: ((ts.zip vs).zip rows).map fun p => (p.1.2, p.2)
          rw [ih (by simpa using hl) (by simpa using hv)]
  have m1 := List.map_mergeSort (r := fun p q : (D × V) × List Int => leI k p.2 q.2) (s := fun p q : D × List Int => leI k p.2 q.2) (f := fun p => (p.1.1, p.2)) (l := (ts.zip vs).zip rows) fun _ _ _ _ => rfl
  have m2 := List.map_mergeSort (r := fun p q : (D × V) × List Int => leI k p.2 q.2) (s := fun p q : V × List Int => leI k p.2 q.2) (f := fun p => (p.1.2, p.2)) (l := (ts.zip vs).zip rows) fun _ _ _ _ => rfl
  unfold SK.srtV
  rw [e1, e2, ← m1, ← m2, List.map_map, List.map_map]
  have hp := List.mergeSort_perm ((ts.zip vs).zip rows) fun p q => leI k p.2 q.2
  have hall : ∀ p ∈ ((ts.zip vs).zip rows).mergeSort (fun p q => leI k p.2 q.2), Rep K C M H p.1.1 p.1.2 := fun p hm => by
    have h1 := (List.of_mem_zip (show (p.1, p.2) ∈ (ts.zip vs).zip rows from hp.mem_iff.mp hm)).1
    have all : ∀ {ts : List D} {vs : List V}, RepL K C M H ts vs → ∀ q ∈ ts.zip vs, Rep K C M H q.1 q.2 := fun {ts} => by
      induction ts with
      | nil => intro vs _ q hq; simp at hq
      | cons t ts ih =>
        intro vs r q hq
        unfold RepL at r
        obtain ⟨v, w, rfl, r1, r2⟩ := r
        rcases List.mem_cons.mp hq with z | z
        · rw [z]; exact r1
        · exact ih r2 q z
    exact all r p.1 h1
  generalize ((ts.zip vs).zip rows).mergeSort (fun p q => leI k p.2 q.2) = L at hall
  induction L with
  | nil => exact repL_nil
  | cons p L ih => exact repL_cons (hall p List.mem_cons_self) (ih fun q hq => hall q (List.mem_cons_of_mem _ hq))
theorem rowsOf_len : ∀ {ts : List D} {rows : List (List Int)}, rowsOf ts = some rows → ts.length = rows.length
  | [], rows, e => by cases e; rfl
  | t :: ts, rows, e => by
    cases t <;> first | (simp only [rowsOf] at e; cases e; done) | skip
    case tup us =>
    unfold rowsOf at e
    split at e
    · rename_i n ns e1 e2
      cases e
      simp [rowsOf_len e2]
    · cases e
theorem srtX_of {k : Bool} {ts : List D} : ∀ {x : D}, srtX k x = some ts → (x = .lst ts ∨ x = .own ts) ∨ (k = false ∧ x = .tup ts)
  | .lst us, h => by cases h; exact .inl (.inl rfl)
  | .own us, h => by cases h; exact .inl (.inr rfl)
  | .tup us, h => by
    cases k with
    | true => cases h
    | false =>
      cases h
      exact .inr ⟨rfl, rfl⟩
  | .non, h => by cases h
  | .bl _, h => by cases h
  | .int _, h => by cases h
  | .str _, h => by cases h
  | .ty _, h => by cases h
  | .frz _, h => by cases h
  | .cell _, h => by cases h
theorem snd_srt {k : Bool} (ha : Snd Er Tb Gv a) : Snd Er Tb Gv (.srt k a) := by
  refine Snd.val rfl (fun W => rfl) fun W C M σ δ σv H Q p s q => ?_
  refine ha.v W C M σ δ σv H _ p s (RPost.mono (RPost.bind q) fun x δ1 C1 H1 l1 p1 q1 u ru _ => ?_)
  cases e : srtD k x with
  | none => rw [e] at q1; exact q1.elim
  | some z =>
    rw [e] at q1
    unfold srtD at e
    cases em : srtX k x with
    | none => rw [em] at e; cases e
    | some ts =>
      rw [em] at e
      have et : (x = .lst ts ∨ x = .own ts) ∨ (k = false ∧ x = .tup ts) := srtX_of em
      have e : srtT k ts = some z := e
      unfold srtT at e
      cases er : rowsOf ts with
      | none => rw [er] at e; cases e
      | some rows =>
        rw [er] at e
        have e : (if (rows.all (fun r => !r.isEmpty) || (!k && decide (rows.length < 2))) && rows.all (fun r => decide (r.length < 2 ^ 60)) then some (D.lst (((ts.zip rows).mergeSort fun p q => leI k p.2 q.2).map (·.1))) else none) = some z := e
        split at e
        · rename_i hall
          cases e
          rw [Bool.and_eq_true, Bool.or_eq_true, List.all_eq_true, List.all_eq_true] at hall
          obtain ⟨ad, vs, e1, e2, e3⟩ : ∃ ad vs, u = .ref ad ∧ (∀ H2 : Hp, LamX.ExtN H1 H2 → SqL K H2 ad vs ∨ (k = false ∧ SqT K H2 ad vs)) ∧ RepL K C1 M H1 ts vs := by
            rcases et with et | ⟨ek, et⟩
            · obtain ⟨ad, vs, e1, e2, e3⟩ := mlst_rep ru et
              exact ⟨ad, vs, e1, fun H2 eN => .inl (SqL.of (eN _ _ e2 (fun ps z => by cases z))), e3⟩
            · subst et
              obtain ⟨ad, vs, e1, e2, e3⟩ := rep_tup (ru.rep rfl)
              refine ⟨ad, vs, e1, fun H2 eN => .inr ⟨ek, ?_⟩, e3⟩
              rcases e2 with (e2 | ⟨o, e2⟩) | e2
              · exact .inl (.inl (eN _ _ e2 (fun ps z => by cases z)))
              · exact .inl (.inr ⟨o, eN _ _ e2 (fun ps z => by cases z)⟩)
              · exact .inr e2
          refine ⟨ad, vs, rows, e1, ?_, fun r hr => ?_, p1.tabs, fun H2 eN T1 => ?_⟩
          · rcases hall.1 with h | h
            · refine .inl fun r hr z => ?_
              have := h r hr
              rw [z] at this
              simp at this
            · rw [Bool.and_eq_true] at h
              exact .inr ⟨by simpa using h.1, of_decide_eq_true h.2⟩
          · exact of_decide_eq_true (hall.2 r hr)
          · have l2 : Le C1 H1 C1 H2 := ⟨⟨[], by simp⟩, fun a h n => absurd h n, fun a o h _ hn => eN a o h hn⟩
            have p2 : Pre K Tb C1 M H2 δ1 := by
              refine ⟨T1, p1.nd, p1.len, p1.cm, fun a m => ?_, fun k ts e => ?_⟩
              · obtain ⟨xs, h, mo⟩ := p1.mh a m
                exact ⟨xs, eN a _ h mo.nt, mo⟩
              · obtain ⟨a, e1, r⟩ := p1.cells k ts e
                exact ⟨a, e1, r.map (fun o co e2 => eN a _ e2 co.nt) (RepL.step p1.cellH l2 inl_)⟩
            have r2 : RepL K C1 M H2 ts vs := RepL.step p1.cellH l2 inl_ ts vs e3
            refine ⟨e2 H2 eN, (rows_rep er r2).1, fun p hp => ?_⟩
            have q2 : RPost Er Tb C1 M H2 (R.ok (D.lst (((ts.zip rows).mergeSort fun p q => leI k p.2 q.2).map (·.1))) δ1) (fun d δ' C' H' => ∀ x, RepS K C' M H' d x → (isFresh (.srt k a) = true → Frs K Tb M H C' H' δ' d x) → Q x H') (wx W σv) := RPost.le q1 l2
            exact (post_of (fr := isFresh (.srt k a)) (l1.trans l2) q2).lst p2 (srt_rep r2 (rowsOf_len er)) p hp
        · cases e
theorem snd_slc {lo hi : E} (ha : Snd Er Tb Gv a) (hl : Snd Er Tb Gv lo) (hh : Snd Er Tb Gv hi) : Snd Er Tb Gv (.slc a lo hi) := by
  refine Snd.val rfl (fun W => rfl) fun W C M σ δ σv H Q p s q => ?_
  refine ha.v W C M σ δ σv H _ p s (RPost.mono (RPost.bind q) fun x δ' C' H' l p' q' u ru _ => ?_)
  refine hl.o W C' M σ δ' σv H' _ p' (s.le p l) (RPost.mono (RPost.bind q') fun i δ2 C2 H2 l2 p2 q2 => ?_)
  refine hh.o W C2 M σ δ2 σv H2 _ p2 (s.le p (l.trans l2)) (RPost.mono (RPost.bind q2) fun j δ3 C3 H3 l3 p3 q3 => ?_)
  cases e : slcD δ3 x i j with
  | none => rw [e] at q3; exact q3.elim
  | some z =>
    rw [e] at q3
    exact slc_ok p3 e (ru.step p'.cellH (l2.trans l3) inl_) (post_of (fr := true) ((l.trans l2).trans l3) q3)
theorem snd_blt {f : Blt} (ha : Snd Er Tb Gv a) : Snd Er Tb Gv (.blt f a) := by
  refine Snd.val rfl (fun W => rfl) fun W C M σ δ σv H Q p s q => ?_
  refine ha.a W C M σ δ σv H _ p s (RPost.mono (RPost.bind q) fun ds δ' C' H' l p' q' vs r => ?_)
  cases e : bltD δ' f ds with
  | none => rw [e] at q'; exact q'.elim
  | some z =>
    rw [e] at q'
    exact blt_ok p' e r (fr := isFresh (.blt f a)) (post_of l q')
theorem sp_call {f : Nat} {C' : List Addr} {M : Addr → Prop} {H' : Hp} {δ' : Dl} {ds : List D} {vs : List V} {Q : VK} {E : XK} (p' : Pre K Tb C' M H' δ') (r : RSL K C' M H' ds vs)
    (q' : RPost Er Tb C' M H' (callE P f ds δ') (fun d _ C2 H2 => ∀ x, RepS K C2 M H2 d x → Q x H2) E) : spOf Er Tb (P.F f) vs H' Q E := by
  obtain ⟨bs, rb, hb, hB⟩ := r.demote
  refine ⟨C', fun a => M a ∧ a ∉ bs, ds.map demote, δ', p'.sub fun a z => z.1, rb, ?_⟩
  unfold callE at q'
  cases hF : P.F f (ds.map demote) δ' with
  | bad => rw [hF] at q'; exact q'.elim
  | ok d δ2 =>
    rw [hF] at q'
    simp only at q'
    split at q'
    · exact q'.elim
    · rename_i hn
      rw [Bool.or_eq_true, not_or, Bool.not_eq_true, Bool.not_eq_true] at hn
      obtain ⟨h1, h2⟩ := hn
      intro C2 H2 l2 p2
      refine ⟨h1, fun v rv => ?_⟩
      cases ho : ds.any isOwn with
      | false =>
        have eb := hb ho
        subst eb
        have up : ∀ a, M a → M a ∧ a ∉ ([] : List Addr) := fun a z => ⟨z, by simp⟩
        exact q' C2 H2 l2 (p2.sub up) v (Rep.sub up d v rv).repS
      | true =>
        rw [ho, Bool.true_and, Bool.not_eq_false', Bool.and_eq_true] at h2
        exact q' C2 H2 l2 (p'.wide l2 p2 fun k ts a e rr => CellR.anyM (List.all_eq_true.mp h2.2 ts (List.mem_of_getElem? e)) rr) v (by
          rcases (Bool.or_eq_true _ _).mp h2.1 with g | g
          · exact (Rep.anyM d v g rv).repS
          · refine (Rep.anyD (fun a z nz => ?_) d v g rv).repS
            have ab : a ∈ bs := Classical.byContradiction fun y => nz ⟨z, y⟩
            obtain ⟨n1, ws, n2, n3⟩ := hB a ab
            exact ⟨ws, l2.ext a _ n2 n1 (fun ps y => by cases y), n3⟩)
  | ex c pl δ2 =>
    rw [hF] at q'
    simp only at q'
    split at q'
    · exact q'.elim
    · rename_i h2
      rw [Bool.not_eq_true] at h2
      intro C2 H2 cls d l2 p2 x
      cases ho : ds.any isOwn with
      | false =>
        have eb := hb ho
        subst eb
        have up : ∀ a, M a → M a ∧ a ∉ ([] : List Addr) := fun a z => ⟨z, by simp⟩
        refine q' C2 H2 cls d l2 (p2.sub up) ⟨x.1, x.2.1, ?_⟩
        cases pl with
        | nil => exact x.2.2
        | cons t r =>
          obtain ⟨dd, v, e1, e2, e3⟩ := x.2.2
          exact ⟨dd, v, e1, e2, Rep.sub up t v e3⟩
      | true =>
        rw [ho, Bool.true_and, Bool.not_eq_false', Bool.and_eq_true] at h2
        refine q' C2 H2 cls d l2 (p'.wide l2 p2 fun k ts a e rr => CellR.anyM (List.all_eq_true.mp h2.2 ts (List.mem_of_getElem? e)) rr) ⟨x.1, x.2.1, ?_⟩
        cases pl with
        | nil => exact x.2.2
        | cons t r =>
          obtain ⟨dd, v, e1, e2, e3⟩ := x.2.2
          have := h2.1
          simp only [noLstL, Bool.and_eq_true] at this
          exact ⟨dd, v, e1, e2, Rep.anyM t v this.1 e3⟩
theorem snd_call {f : Nat} (ha : Snd Er Tb Gv a) : Snd Er Tb Gv (.call f a) := by
  refine Snd.val rfl (fun W => rfl) fun W C M σ δ σv H Q p s q => ?_
  refine ha.a W C M σ δ σv H _ p s (RPost.mono (RPost.bind q) fun ds δ' C' H' l p' q' vs r => ?_)
  exact sp_call p' r (RPost.mono q' fun d δ2 C2 H2 _ _ h x rx => h x rx (no_of rfl))
theorem snd_fld {c : String} {f : Str} (ha : Snd Er Tb Gv a) : Snd Er Tb Gv (.fld c f a) := by
  refine Snd.val rfl (fun W => rfl) fun W C M σ δ σv H Q p s q => ?_
  refine ha.v W C M σ δ σv H _ p s (RPost.mono (RPost.bind q) fun x δ1 C1 H1 l1 p1 q1 u ru _ => ?_)
  obtain ⟨d, e, q2⟩ := RPost.of p1 q1
  rw [Option.bind_eq_some_iff] at e
  obtain ⟨pr, e1, e2⟩ := e
  obtain ⟨k, rr⟩ := pr
  have ex := (insD_of e1).1
  subst ex
  obtain ⟨ad, dx, fv, h1, h2, h3, h4⟩ := p1.insD e1 (ru.rep rfl)
  obtain ⟨v, h5, h6⟩ := RepF.get h4 e2
  exact ⟨ad, dx, fv, v, h1, h3, h5, q2 v h6.repS (no_of rfl)⟩
theorem snd_mcl {c : String} {m : Str} {f : Nat} {o : E} (ho : Snd Er Tb Gv o) (ha : Snd Er Tb Gv a) : Snd Er Tb Gv (.mcl c m f o a) := by
  refine Snd.val rfl (fun W => rfl) fun W C M σ δ σv H Q p s q => ?_
  refine ho.v W C M σ δ σv H _ p s (RPost.mono (RPost.bind q) fun x δ1 C1 H1 l1 p1 q1 u ru _ => ?_)
  cases e1 : insD δ1 c x with
  | none => rw [e1] at q1; exact q1.elim
  | some pr =>
    rw [e1] at q1
    obtain ⟨k, rr⟩ := pr
    simp only at q1
    split at q1
    · rename_i hn
      have ex := (insD_of e1).1
      subst ex
      obtain ⟨ad, dx, fv, h1, h2, h3, h4⟩ := p1.insD e1 (ru.rep rfl)
      refine ⟨ad, dx, fv, h1, h3, RepF.none h4 (Option.isNone_iff_eq_none.mp hn), ?_⟩
      refine ha.a W C1 M σ δ1 σv H1 _ p1 (s.le p l1) (RPost.mono (RPost.bind q1) fun ds δ2 C2 H2 l2 p2 q2 vs r => ?_)
      exact sp_call (ds := _ :: ds) p2 ⟨u, vs, rfl, ru.step p1.cellH l2 inl_, r⟩ (RPost.mono q2 fun d δ3 C3 H3 _ _ h x rx => h x rx (no_of rfl))
    · exact q1.elim
theorem Pre.newIns {C1 : List Addr} {M : Addr → Prop} {H1 : Hp} {δ1 : Dl} (p : Pre K Tb C1 M H1 δ1) {c : String} (nd : c ≠ "dict") {x dx : Addr} (hx : H1 x = none) (hd : H1 dx = none) (hn : dx ≠ x) :
    Le C1 H1 (C1 ++ [x]) (upd (upd H1 dx (.own x)) x (.ins (clsA K c) dx [])) ∧ Pre K Tb (C1 ++ [x]) M (upd (upd H1 dx (.own x)) x (.ins (clsA K c) dx [])) (δ1 ++ [[.ty c]]) := by
  have u : ∀ b o, H1 b = some o → upd (upd H1 dx (.own x)) x (.ins (clsA K c) dx []) b = some o := fun b o h => by
    rw [upd_ne (ne_of_none h hx), upd_ne (ne_of_none h hd)]; exact h
  obtain ⟨f1, f2⟩ := p.fresh hx
  have l : Le C1 H1 (C1 ++ [x]) (upd (upd H1 dx (.own x)) x (.ins (clsA K c) dx [])) := ⟨⟨[x], rfl⟩, fun a ha n => by
    rcases List.mem_append.mp ha with z | z
    · exact absurd z n
    · rw [List.mem_singleton.mp z]; exact NT.of_none hx, fun a o h _ _ => u a o h⟩
  refine ⟨l, p.tabs.ext u, List.nodup_append.mpr ⟨p.nd, by simp, fun a ha b hb => ?_⟩, by simp [p.len], fun a ha z => ?_, fun a m => ?_, fun k ts e => ?_⟩
  · rw [List.mem_singleton.mp hb]
    exact fun z => f2 (by rw [← z]; exact ha)
  · rcases List.mem_append.mp ha with h | h
    · exact p.cm a h z
    · rw [List.mem_singleton.mp h] at z; exact f1 z
  · obtain ⟨xs, q, mo⟩ := p.mh a m
    exact ⟨xs, u a _ q, mo⟩
  · by_cases hk : k < δ1.length
    · rw [List.getElem?_append_left hk] at e
      obtain ⟨b, e1, r⟩ := p.cells k ts e
      exact ⟨b, by rw [List.getElem?_append_left (by rw [p.len]; exact hk)]; exact e1, r.map (fun o _ h => u b o h) (RepL.step p.cellH l inl_)⟩
    · rw [List.getElem?_append_right (by omega)] at e
      have hk0 : k - δ1.length = 0 := by
        have := (List.getElem?_eq_some_iff.mp e).1
        simp at this; omega
      rw [hk0] at e
      cases e
      refine ⟨x, ?_, CellR.mkIns nd upd_same (show RepF K _ _ _ [] [] from rfl)⟩
      rw [List.getElem?_append_right (by rw [p.len]; omega), p.len, hk0]
      rfl
theorem Pre.newDic {C1 : List Addr} {M : Addr → Prop} {H1 : Hp} {δ1 : Dl} (p : Pre K Tb C1 M H1 δ1) {x : Addr} (hx : H1 x = none) :
    Le C1 H1 (C1 ++ [x]) (upd H1 x (DM.dO x [])) ∧ Pre K Tb (C1 ++ [x]) M (upd H1 x (DM.dO x [])) (δ1 ++ [[.ty "dict"]]) := by
  have u : ∀ b o, H1 b = some o → upd H1 x (DM.dO x []) b = some o := fun b o h => by
    rw [upd_ne (ne_of_none h hx)]; exact h
  obtain ⟨f1, f2⟩ := p.fresh hx
  have l : Le C1 H1 (C1 ++ [x]) (upd H1 x (DM.dO x [])) := ⟨⟨[x], rfl⟩, fun a ha n => by
    rcases List.mem_append.mp ha with z | z
    · exact absurd z n
    · rw [List.mem_singleton.mp z]; exact NT.of_none hx, fun a o h _ _ => u a o h⟩
  refine ⟨l, p.tabs.ext u, List.nodup_append.mpr ⟨p.nd, by simp, fun a ha b hb => ?_⟩, by simp [p.len], fun a ha z => ?_, fun a m => ?_, fun k ts e => ?_⟩
  · rw [List.mem_singleton.mp hb]
    exact fun z => f2 (by rw [← z]; exact ha)
  · rcases List.mem_append.mp ha with h | h
    · exact p.cm a h z
    · rw [List.mem_singleton.mp h] at z; exact f1 z
  · obtain ⟨xs, q, mo⟩ := p.mh a m
    exact ⟨xs, u a _ q, mo⟩
  · by_cases hk : k < δ1.length
    · rw [List.getElem?_append_left hk] at e
      obtain ⟨b, e1, r⟩ := p.cells k ts e
      exact ⟨b, by rw [List.getElem?_append_left (by rw [p.len]; exact hk)]; exact e1, r.map (fun o _ h => u b o h) (RepL.step p.cellH l inl_)⟩
    · rw [List.getElem?_append_right (by omega)] at e
      have hk0 : k - δ1.length = 0 := by
        have := (List.getElem?_eq_some_iff.mp e).1
        simp at this; omega
      rw [hk0] at e
      cases e
      refine ⟨x, ?_, CellR.mkDic (vs := []) (xs := []) upd_same repL_nil ⟨rfl, rfl⟩ List.nodup_nil⟩
      rw [List.getElem?_append_right (by rw [p.len]; omega), p.len, hk0]
      rfl
theorem snd_dnew : Snd Er Tb Gv .dnew := by
  refine Snd.tst rfl (fun W => rfl) (fun W C M σ δ σv H Q p s q => ?_) fun W C M σ δ σv H Q p s q => q.elim
  intro x hx
  obtain ⟨l2, p2⟩ := p.newDic hx
  have q2 := q.le l2
  have rc : Rep K (C ++ [x]) M (upd H x (DM.dO x [])) (.cell δ.length) (.ref x) := by
    unfold Rep
    exact ⟨x, rfl, by rw [← p.len]; simp⟩
  exact q _ _ l2 p2 (.ref x) rc.repS (no_of rfl)
theorem dic_at {C : List Addr} {M : Addr → Prop} {H : Hp} {δ : Dl} {y x : D} {k : Nat} {ks : List Int} {r : List D} {v u : V} (p : Pre K Tb C M H δ) (e : dicD δ y = some (k, r)) (ek : keyI x = some ks) (ry : RepS K C M H y v) (rx : RepS K C M H x u) :
    ∃ a xs, DM.DAt K H v u a ks xs ∧ (∀ d, dLook ks r = some d → ∃ p v, atKey xs ks = some p ∧ RelV v p.2 ∧ Rep K C M H d v) ∧ (dLook ks r = none → atKey xs ks = none) := by
  have ey := (dicD_of e).1
  have ex := keyI_eq ek
  obtain ⟨b, eb, sb⟩ := key_rep ek (rx.rep (by rw [ex]; rfl))
  obtain ⟨a, vs, xs, ev, _, h, r1, x1, _⟩ := p.dicD e (ry.rep (by rw [ey]; rfl))
  obtain ⟨l1, l2⟩ := x1.look ks r1
  exact ⟨a, xs, ⟨b, ev, eb, sb, h, x1.ks r1⟩, l1, l2⟩
theorem snd_din {n : Bool} (ha : Snd Er Tb Gv a) (hb : Snd Er Tb Gv b) : Snd Er Tb Gv (.din n a b) := by
  refine Snd.ofB rfl (fun W => rfl) rfl fun W C M σ δ σv H Q p s q => ?_
  refine snd_two (R2_ := fun y x H2 => ∃ a ks xs, DM.DAt K H2 x y a ks xs ∧ Q (.bl (if n then !(atKey xs ks).isSome else (atKey xs ks).isSome)) H2) ha hb p s q fun x y δ2 C2 H2 u v l p2 s2 ru rv q2 => ?_
  obtain ⟨z, e, q3⟩ := RPost.of p2 q2
  rw [Option.bind_eq_some_iff] at e
  obtain ⟨ks, e1, e2⟩ := e
  obtain ⟨⟨k, r⟩, e3, e4⟩ := Option.map_eq_some_iff.mp e2
  obtain ⟨ad, xs, dd, l1, l2⟩ := dic_at p2 e3 e1 rv ru
  refine ⟨ad, ks, xs, dd, ?_⟩
  have hs : (atKey xs ks).isSome = (dLook ks r).isSome := by
    cases hq : dLook ks r with
    | none => rw [l2 hq]; rfl
    | some d =>
      obtain ⟨pp, v, h1, _⟩ := l1 d hq
      rw [h1]; rfl
  rw [hs, show (if n = true then !(dLook ks r).isSome else (dLook ks r).isSome) = z from e4]
  exact q3
theorem snd_dget (ha : Snd Er Tb Gv a) (hb : Snd Er Tb Gv b) : Snd Er Tb Gv (.dget a b) := by
  refine Snd.tst rfl (fun W => rfl) (fun W C M σ δ σv H Q p s q => ?_) fun W C M σ δ σv H Q p s q => q.elim
  refine snd_two (R2_ := fun x y H2 => ∃ a ks xs p v, DM.DAt K H2 x y a ks xs ∧ atKey xs ks = some p ∧ RelV v p.2 ∧ Q v H2) ha hb p s q fun x y δ2 C2 H2 u v l p2 s2 ru rv q2 => ?_
  obtain ⟨z, e, q3⟩ := RPost.of p2 q2
  rw [Option.bind_eq_some_iff] at e
  obtain ⟨ks, e1, e2⟩ := e
  rw [Option.bind_eq_some_iff] at e2
  obtain ⟨⟨k, r⟩, e3, e4⟩ := e2
  obtain ⟨ad, xs, dd, l1, l2⟩ := dic_at p2 e3 e1 ru rv
  obtain ⟨pp, w, h1, h2, h3⟩ := l1 z e4
  exact ⟨ad, ks, xs, pp, w, dd, h1, h2, q3 w h3.repS (no_of rfl)⟩
theorem snd_dgeto (ha : Snd Er Tb Gv a) (hb : Snd Er Tb Gv b) (hc : Snd Er Tb Gv c) : Snd Er Tb Gv (.dgeto a b c) := by
  refine Snd.tst rfl (fun W => rfl) (fun W C M σ δ σv H Q p s q => ?_) fun W C M σ δ σv H Q p s q => q.elim
  refine ha.v W C M σ δ σv H _ p s (RPost.mono (RPost.bind q) fun y δ1 C1 H1 l1 p1 q1 u ru _ => ?_)
  split at q1
  · rename_i hd
    obtain ⟨⟨k0, r0⟩, e0⟩ := Option.isSome_iff_exists.mp hd
    have ey := (dicD_of e0).1
    obtain ⟨ad0, vs0, xs0, ev0, _, h0, _⟩ := p1.dicD e0 (ru.rep (by rw [ey]; rfl))
    refine ⟨ad0, xs0, ev0, h0, ?_⟩
    refine snd_two (R2_ := fun y z H3 => ∃ ks xs, DM.DAt K H3 u y ad0 ks xs ∧ (∀ p, atKey xs ks = some p → ∃ v, RelV v p.2 ∧ Q v H3) ∧ (atKey xs ks = none → Q z H3)) hb hc p1 (s.le p l1) q1 fun x z δ2 C2 H2 v w l2 p2 s2 rv rw_ q2 => ?_
    have ru2 := ru.step p1.cellH l2 inl_
    split at q2
    · exact q2.elim
    rename_i hz
    obtain ⟨d, e, q3⟩ := RPost.of p2 q2
    rw [Option.bind_eq_some_iff] at e
    obtain ⟨ks, e1, e2⟩ := e
    obtain ⟨⟨k, r⟩, e3, e4⟩ := Option.map_eq_some_iff.mp e2
    obtain ⟨ad, xs, dd, l3, l4⟩ := dic_at p2 e3 e1 ru2 rv
    have ea : ad0 = ad := by
      obtain ⟨b, eb, _⟩ := dd
      rw [ev0] at eb; cases eb; rfl
    subst ea
    have e4 : (dLook ks r).getD z = d := e4
    refine ⟨ks, xs, dd, fun pp hp => ?_, fun hn => ?_⟩
    · cases hq : dLook ks r with
      | none => rw [l4 hq] at hp; cases hp
      | some d' =>
        obtain ⟨pp', w', h1, h2, h3⟩ := l3 d' hq
        rw [h1] at hp; cases hp
        rw [hq] at e4
        cases e4
        exact ⟨w', h2, q3 w' h3.repS (no_of rfl)⟩
    · cases hq : dLook ks r with
      | some d' =>
        obtain ⟨pp', w', h1, h2, h3⟩ := l3 d' hq
        rw [h1] at hn; cases hn
      | none =>
        rw [hq] at e4
        cases e4
        exact q3 w rw_ (no_of rfl)
  · exact q1.elim
theorem snd_mk {c : String} {f : Nat} (ha : Snd Er Tb Gv a) : Snd Er Tb Gv (.mk c f a) := by
  refine Snd.val rfl (fun W => rfl) fun W C M σ δ σv H Q p s q => ?_
  refine ha.a W C M σ δ σv H _ p s (RPost.mono (RPost.bind q) fun ds δ1 C1 H1 l1 p1 q1 vs r => ?_)
  split at q1
  · exact q1.elim
  · rename_i hbad
    have nd : c ≠ "dict" := fun z => hbad (by rw [z]; simp)
    intro x dx hx hd hn
    obtain ⟨l2, p2⟩ := p1.newIns (c := c) nd hx hd hn
    have q2 := RPost.bind (q1.le l2)
    have rc : Rep K (C1 ++ [x]) M (upd (upd H1 dx (.own x)) x (.ins (clsA K c) dx [])) (.cell δ1.length) (.ref x) := by
      unfold Rep
      exact ⟨x, rfl, by rw [← p1.len]; simp⟩
    refine sp_call (ds := _ :: ds) p2 ⟨.ref x, vs, rfl, rc.repS, RSL.step p1.cellH l2 inl_ r⟩ (RPost.mono q2 fun d δ3 C3 H3 l3 p3 h w rw_ => ?_)
    cases d <;> first | exact h.elim | skip
    case non =>
    exact ⟨rep_non (rw_.rep rfl), RPost.here p3 h (.ref x) (Rep.step p2.cellH l3 inl_ _ _ rc).repS (no_of rfl)⟩
theorem snd_nil : Snd Er Tb Gv .nil := Snd.arg rfl (fun W => rfl) fun W C M σ δ σv H Q p s q => RPost.here p q [] rfl
theorem snd_cons (ha : Snd Er Tb Gv a) (hb : Snd Er Tb Gv b) : Snd Er Tb Gv (.cons a b) := by
  refine Snd.arg rfl (fun W => rfl) fun W C M σ δ σv H Q p s q => ?_
  refine ha.v W C M σ δ σv H _ p s (RPost.mono (RPost.bind q) fun x δ' C' H' l p' q' u ru _ => ?_)
  refine hb.a W C' M σ δ' σv H' _ p' (s.le p l) (RPost.mono (RPost.bind q') fun ds δ2 C2 H2 l2 p2 q2 vs r => ?_)
  exact RPost.here p2 q2 _ ⟨u, vs, rfl, ru.step p'.cellH l2 inl_, r⟩
theorem snd_np : Snd Er Tb Gv .np := by
  refine ⟨fun W C M σ δ σv H Q p s q => q.elim, fun W C M σ δ σv H Q p s q => RPost.here p q, fun W C M σ δ σv H Q p s q => RPost.here p q, fun W C M σ δ σv H Q p s q => q.elim⟩
theorem RepS.subM {C : List Addr} {M M' : Addr → Prop} {H : Hp} (hm : ∀ a, M' a → M a) {t : D} {v : V} (h : RepS K C M H t v) : RepS K C M' H t v := by
  cases t
  case own ts =>
    obtain ⟨a, vs, e, nc, s, r⟩ := h
    exact ⟨a, vs, e, nc, s, RepL.sub hm ts vs r⟩
  all_goals exact Rep.sub hm _ _ h
theorem lend_slots {i : Nat} {ts : List D} {C : List Addr} {M : Addr → Prop} {H : Hp} {σ : Sig} {σv : L2.St} {δ : Dl} (p : Pre K Tb C M H δ) (s : Sl K C M H σ σv) (e : ownAt σ i = some ts) :
    ∃ ad, Sl K C (fun x => M x ∧ x ≠ ad) H (σ.set i (some (.lst ts))) σv := by
  have e' : σ[i]? = some (some (.own ts)) := by
    unfold ownAt at e
    split at e
    · rename_i us h
      cases e
      exact h
    · cases e
  obtain ⟨v, e1, r⟩ := s.at_ i _ e'
  obtain ⟨ad, vs, e2, nc, h, rl⟩ := rep_own r
  subst e2
  refine ⟨ad, by rw [List.length_set]; exact s.len, fun j d hj => ?_⟩
  by_cases hij : i = j
  · subst hij
    rw [List.getElem?_set_self (List.getElem?_eq_some_iff.mp e').1] at hj
    cases hj
    refine ⟨_, e1, ?_⟩
    show Rep K C _ H (.lst ts) (.ref ad)
    unfold Rep
    exact ⟨ad, vs, rfl, fun z => z.2 rfl, nc, h, RepL.sub (fun a z => z.1) ts vs rl⟩
  · rw [List.getElem?_set_ne hij] at hj
    obtain ⟨v, h1, h2⟩ := s.at_ j d hj
    exact ⟨v, h1, h2.subM fun a z => z.1⟩
theorem snd_lend {i : Nat} (ha : Snd Er Tb Gv a) : Snd Er Tb Gv (.lend i a) := by
  refine Snd.tst rfl (fun W => rfl) (fun W C M σ δ σv H Q p s q => ?_) fun W C M σ δ σv H Q p s q => ?_
  · cases e : ownAt σ i with
    | none => rw [e] at q; exact q.elim
    | some ts =>
      rw [e] at q
      have q : RPost Er Tb C M H (lendE (isFresh a) ((evA' P a).v (σ.set i (some (.lst ts))) δ)) (fun d δ' C' H' => ∀ x, RepS K C' M H' d x → (isFresh a = true → Frs K Tb M H C' H' δ' d x) → Q x H') (wx W σv) := q
      obtain ⟨ad, s'⟩ := lend_slots p s e
      refine ha.v W C (fun x => M x ∧ x ≠ ad) _ δ σv H Q (p.sub fun a z => z.1) s' ?_
      cases ev : (evA' P a).v (σ.set i (some (.lst ts))) δ with
      | bad => rw [ev] at q; exact q.elim
      | ok d δ' =>
        rw [ev] at q
        unfold lendE at q
        simp only at q
        split at q
        · rename_i hn
          rw [Bool.and_eq_true] at hn
          intro C' H' l p' x r f
          have cells : ∀ (M2 : Addr → Prop) (k : Nat) (us : List D) (b : Addr), δ'[k]? = some us → CellR K C' (fun x => M x ∧ x ≠ ad) H' b us → CellR K C' M2 H' b us := fun M2 k us b ek rr => CellR.anyM (List.all_eq_true.mp hn.2 us (List.mem_of_getElem? ek)) rr
          have pw : Pre K Tb C' M H' δ' := p.wide l p' (cells M)
          have frs : isFresh a = true → Frs K Tb M H C' H' δ' d x := fun hf ys ed => by
            obtain ⟨a', vs', h1, h2, h3, h4, h5, h6⟩ := f hf ys ed
            have hy : noLstL ys = true := by
              have := hn.1
              unfold lendOk at this
              subst ed
              have n0 : noLst (.lst ys) = false := rfl
              rw [n0, hf] at this
              simpa using this
            refine ⟨a', vs', h1, h2, h3, h4, ⟨h5.tabs, h5.nd, h5.len, fun b hb z => ?_, fun b z => ?_, fun k us ek => ?_⟩, RepL.anyM ys vs' hy h6⟩
            · rcases z with z | z
              · exact pw.cm b hb z
              · exact h3 (z ▸ hb)
            · rcases z with z | z
              · exact pw.mh b z
              · exact ⟨_, z ▸ h4, MO.lst⟩
            · obtain ⟨b, z1, z3⟩ := p'.cells k us ek
              exact ⟨b, z1, cells _ k us b ek z3⟩
          refine q C' H' l pw x ?_ frs
          by_cases hl : noLst d = true
          · have ho : isOwn d = false := by cases d <;> first | rfl | (unfold noLst at hl; cases hl)
            exact (Rep.anyM d x hl (r.rep ho)).repS
          · have h1 := hn.1
            unfold lendOk at h1
            rw [Bool.or_eq_true, Bool.and_eq_true] at h1
            rcases h1 with h1 | ⟨hf, h1⟩
            · exact absurd h1 hl
            · cases d <;> first | cases h1 | skip
              case lst ys =>
              obtain ⟨a', vs', g1, g2, g3, g4, g5, g6⟩ := frs hf ys rfl
              show Rep K C' M H' (.lst ys) x
              unfold Rep
              refine ⟨a', vs', g1, fun z => ?_, g3, g4, RepL.sub (fun b z => .inl z) ys vs' g6⟩
              obtain ⟨xs, hx, mo⟩ := p.mh a' z
              exact g2.not hx mo.nt
        · exact q.elim
      | ex c pl δ' =>
        rw [ev] at q
        unfold lendE at q
        simp only at q
        split at q
        · rename_i hn
          rw [Bool.and_eq_true] at hn
          intro C' H' cls d l p' x
          refine q C' H' cls d l (p.wide l p' fun k us a ek rr => CellR.anyM (List.all_eq_true.mp hn.2 us (List.mem_of_getElem? ek)) rr) ⟨x.1, x.2.1, ?_⟩
          cases pl with
          | nil => exact x.2.2
          | cons t r =>
            obtain ⟨dd, v, e1, e2, e3⟩ := x.2.2
            have := hn.1
            simp only [noLstL, Bool.and_eq_true] at this
            exact ⟨dd, v, e1, e2, Rep.anyM t v this.1 e3⟩
        · exact q.elim
  · cases e : ownAt σ i with
    | none => rw [e] at q; exact q.elim
    | some ts =>
      rw [e] at q
      have q : RPost Er Tb C M H (lendT ((evA' P a).t (σ.set i (some (.lst ts))) δ)) (fun k _ _ H' => Q k H') (wx W σv) := q
      obtain ⟨ad, s'⟩ := lend_slots p s e
      refine ha.t W C (fun x => M x ∧ x ≠ ad) _ δ σv H Q (p.sub fun a z => z.1) s' ?_
      cases ev : (evA' P a).t (σ.set i (some (.lst ts))) δ with
      | bad => rw [ev] at q; exact q.elim
      | ok d δ' =>
        rw [ev] at q
        unfold lendT at q
        simp only at q
        split at q
        · rename_i hn
          intro C' H' l p'
          exact q C' H' l (p.wide l p' fun k us a ek rr => CellR.anyM (List.all_eq_true.mp hn us (List.mem_of_getElem? ek)) rr)
        · exact q.elim
      | ex c pl δ' =>
        rw [ev] at q
        unfold lendT at q
        simp only at q
        split at q
        · rename_i hn
          rw [Bool.and_eq_true] at hn
          intro C' H' cls d l p' x
          refine q C' H' cls d l (p.wide l p' fun k us a ek rr => CellR.anyM (List.all_eq_true.mp hn.2 us (List.mem_of_getElem? ek)) rr) ⟨x.1, x.2.1, ?_⟩
          cases pl with
          | nil => exact x.2.2
          | cons t r =>
            obtain ⟨dd, v, e1, e2, e3⟩ := x.2.2
            have := hn.1
            simp only [noLstL, Bool.and_eq_true] at this
            exact ⟨dd, v, e1, e2, Rep.anyM t v this.1 e3⟩
        · exact q.elim
theorem snd_scope (ha : Snd Er Tb Gv a) : Snd Er Tb Gv (.scope a) := by
  refine Snd.tst rfl (fun W => rfl) (fun W C M σ δ σv H Q p s q => ?_) fun W C M σ δ σv H Q p s q => q.elim
  refine ha.v W C M σ δ σv H _ p s ?_
  cases e : (evA' P a).v σ δ with
  | bad => rw [e] at q; exact q.elim
  | ok d δ' =>
    rw [e] at q
    unfold scopeE at q
    simp only at q
    split at q
    · rename_i hn
      rw [Bool.and_eq_true] at hn
      intro C' H' l p' x r _
      obtain ⟨p2, l2⟩ := p.scope l p' hn.2
      exact q C H' l2 p2 x (r.anyC (fun a h => l.mem h) hn.1) (no_of rfl)
    · exact q.elim
  | ex c pl δ' =>
    rw [e] at q
    unfold scopeE at q
    simp only at q
    split at q
    · rename_i hn
      rw [Bool.and_eq_true] at hn
      intro C' H' cls d l p' x
      obtain ⟨p2, l2⟩ := p.scope l p' hn.2
      refine q C H' cls d l2 p2 ⟨x.1, x.2.1, ?_⟩
      cases pl with
      | nil => exact x.2.2
      | cons t r =>
        obtain ⟨dd, v, e1, e2, e3⟩ := x.2.2
        have := hn.1
        simp only [noCellL, Bool.and_eq_true] at this
        exact ⟨dd, v, e1, e2, Rep.anyC (fun a h => l.mem h) t v this.1 e3⟩
    · exact q.elim
theorem snd_newc (ha : Snd Er Tb Gv a) : Snd Er Tb Gv (.newc a) := by
  refine Snd.tst rfl (fun W => rfl) (fun W C M σ δ σv H Q p s q => ?_) fun W C M σ δ σv H Q p s q => q.elim
  split at q
  · rename_i hf
    refine ha.v W C M σ δ σv H _ p s ?_
    cases e : (evA' P a).v σ δ with
    | bad => rw [e] at q; exact q.elim
    | ex c pl δ' => rw [e] at q; exact q
    | ok d δ' =>
      rw [e] at q
      cases d <;> first | exact q.elim | skip
      case lst ts =>
      have q : RPost Er Tb C M H (if (insOf ts).isSome = true then R.bad else R.ok (.cell δ'.length) (δ' ++ [ts])) (fun d δ' C' H' => ∀ x, RepS K C' M H' d x → (isFresh (.newc a) = true → Frs K Tb M H C' H' δ' d x) → Q x H') (wx W σv) := q
      split at q
      · exact q.elim
      rename_i hni
      have hni : insOf ts = none := by
        cases z : insOf ts with
        | none => rfl
        | some w => rw [z] at hni; exact absurd rfl hni
      intro C' H' l p' x r f
      obtain ⟨ad, vs, e1, nt, nc, ha', pf, rf⟩ := f hf ts rfl
      have nm : ¬ M ad := by
        obtain ⟨b, ws, e2, nm, _⟩ := rep_lst (r.rep rfl)
        rw [e1] at e2; cases e2
        exact nm
      have l2 : Le C H (C' ++ [ad]) H' := by
        refine ⟨?_, fun z hz n => ?_, l.ext⟩
        · obtain ⟨m, em⟩ := l.pre
          exact ⟨m ++ [ad], by rw [em, List.append_assoc]⟩
        · rcases List.mem_append.mp hz with hz | hz
          · exact l.new z hz n
          · rw [List.mem_singleton.mp hz]; exact nt
      have q' : RPost Er Tb C M H (.ok (.cell δ'.length) (δ' ++ [ts])) (fun d δ' C' H' => ∀ x, RepS K C' M H' d x → (isFresh (.newc a) = true → Frs K Tb M H C' H' δ' d x) → Q x H') (wx W σv) := q
      refine q' (C' ++ [ad]) H' l2 (pf.newCell nc nm hni ha' rf) x ?_ (no_of rfl)
      rw [e1]
      show Rep K _ _ _ _ _
      unfold Rep
      exact ⟨ad, rfl, by rw [← p'.len]; simp⟩
  · exact q.elim
theorem snd_var {i : Nat} : Snd Er Tb Gv (.var i) := by
  refine Snd.val rfl (fun W => rfl) fun W C M σ δ σv H Q p s q => ?_
  split at q
  · rename_i d e
    obtain ⟨v, h1, h2⟩ := s.at_ i d e
    exact ⟨v, h1, RPost.here p q v h2 (no_of rfl)⟩
  · exact q.elim
theorem snd_tab1 {t : Str} {i : Nat} : Snd Er Tb Gv (.tab1 t i) := by
  refine Snd.val rfl (fun W => rfl) fun W C M σ δ σv H Q p s q => ?_
  split at q
  · rename_i d e
    split at q
    · exact q.elim
    · rename_i hn
      obtain ⟨v, h1, h2⟩ := s.at_ i d e
      intro pp hp
      refine ⟨v, h1, upd_same, [(Sum.inr t, v)], rfl, by simp, ?_⟩
      rw [upd_upd]
      have r := h2.rep (by simpa using hn)
      obtain ⟨l, p', r'⟩ := p.newTab (ks := [t]) (RepL.one r) hp
      exact q _ _ l p' (.ref pp) r'.repS (no_of rfl)
  · exact q.elim
theorem snd_sel {fs : List (Str × Nat)} {i : Nat} (ha : Snd Er Tb Gv a) : Snd Er Tb Gv (.sel fs i a) := by
  refine Snd.val rfl (fun W => rfl) fun W C M σ δ σv H Q p s q => ?_
  split at q
  · rename_i t e
    cases eg : selGet fs t none with
    | none => rw [eg] at q; exact q.elim
    | some f =>
      rw [eg] at q
      obtain ⟨v, h1, h2⟩ := s.at_ i _ e
      rw [rep_str (h2.rep rfl)] at h1
      intro pp kvs hp
      have u := upd_all (o := .dK kvs) hp
      have l0 := le_of_all (C := C) u
      refine ⟨t, f, h1, eg, ?_⟩
      refine ha.a W C M σ δ σv _ _ (p.all u) (s.le p l0) (RPost.mono (RPost.bind (q.le l0)) fun ds δ' C' H' l p' q' vs r => ?_)
      exact sp_call p' r (RPost.mono q' fun d δ2 C2 H2 _ _ h x rx => h x rx (no_of rfl))
  · exact q.elim
theorem snd_lc {vs : List Nat} {g : G} {k : IK} {it ec ee : E} (hi : Snd Er Tb Gv it) (hc : Snd Er Tb Gv ec) (he : Snd Er Tb Gv ee) : Snd Er Tb Gv (.lc vs g k it ec ee) := by
  refine Snd.val rfl (fun W => rfl) fun W C M σ δ σv H Q p s q => ?_
  refine hi.a W C M σ δ σv H _ p s (RPost.mono (RPost.bind q) fun ds δ1 C1 H1 l1 p1 q1 us r => ?_)
  cases ei : itemsD δ1 k ds with
  | none => rw [ei] at q1; exact q1.elim
  | some xs =>
    rw [ei] at q1
    simp only at q1
    split at q1
    · exact q1.elim
    · rename_i hn
      rw [Bool.or_eq_true, not_or, decide_eq_true_eq, Bool.not_eq_true, Bool.not_eq_false'] at hn
      obtain ⟨Gh, J, gh, w, fin⟩ := items_ok (Tb := Tb) ei r
      refine fin _ fun Dd hD => ?_
      have hg : ∀ i, i ∈ gSlots g → i ∈ vs := fun i hi => by
        have := List.all_eq_true.mp hn.2 i hi
        simpa using this
      cases eg : lcGo g (evA' P ec).t (evA' P ee).v (wipeD σ vs) xs δ1 with
      | bad => rw [eg] at q1; exact q1.elim
      | ex c pl d => 
        exact absurd eg (lcGo_noex _ _ _ _ _ _)
      | ok ys δ2 =>
        rw [eg] at q1
        have q2 : RPost Er Tb C1 M H1 (R.ok (D.lst ys) δ2) (fun d δ' C' H' => ∀ x, RepS K C' M H' d x → (isFresh (.lc vs g k it ec ee) = true → Frs K Tb M H C' H' δ' d x) → Q x H') (wx W σv) := q1
        refine lc_ok hc he w hg (by omega) p1 (s.le p l1) gh hD eg fun C' H' ws l p' nD hd rr => ?_
        have nm : ¬ M Dd := (p1.fresh hD).1
        have pM : Pre K Tb C' M H' δ2 := p'.sub fun a z => .inl z
        refine q2 C' H' l pM (.ref Dd) ?_ fun _ ts e => ?_
        · show Rep K _ _ _ _ _
          unfold Rep
          exact ⟨Dd, ws, rfl, nm, nD, hd, RepL.sub (fun a z => .inl z) _ _ rr⟩
        · cases e
          exact ⟨Dd, ws, rfl, (NT.of_none hD).back l1.ext (fun z => nD (l.mem (l1.mem z))), nD, hd, p', rr⟩
where
  lcGo_noex (g : G) (c : Sig → Dl → R Bool) (e : Sig → Dl → R D) (σw : Sig) : ∀ (xs : List D) (δ : Dl) {c' : Str} {pl : List D} {d : Dl}, lcGo g c e σw xs δ ≠ .ex c' pl d
    | [], δ, _, _, _ => fun z => by cases z
    | x :: xs, δ, c', pl, d => fun z => by
      unfold lcGo at z
      split at z
      · cases z
      · rename_i σ2 _
        cases h1 : c σ2 δ with
        | bad => rw [h1] at z; cases z
        | ex _ _ _ => rw [h1] at z; cases z
        | ok b δ1 =>
          rw [h1] at z
          simp only [R.noex, R.bind] at z
          split at z
          · cases h2 : e σ2 δ1 with
            | bad => rw [h2] at z; cases z
            | ex _ _ _ => rw [h2] at z; cases z
            | ok y δ2 =>
              rw [h2] at z
              simp only at z
              split at z
              · cases z
              · cases h3 : lcGo g c e σw xs δ2 with
                | bad => rw [h3] at z; cases z
                | ex _ _ _ => exact lcGo_noex g c e σw xs δ2 h3
                | ok ys δ3 => rw [h3] at z; cases z
          · exact lcGo_noex g c e σw xs δ1 z
theorem gxGo_noex (b : Bool) (g : G) (c : Sig → Dl → R Bool) (e : Sig → Dl → R D) (σw : Sig) : ∀ (xs : List D) (δ : Dl) {c' : Str} {pl : List D} {d : Dl}, gxGo b g c e σw xs δ ≠ .ex c' pl d
  | [], δ, _, _, _ => fun z => by cases z
  | x :: xs, δ, c', pl, d => fun z => by
    unfold gxGo at z
    split at z
    · cases z
    · rename_i σ2 _
      cases h1 : c σ2 δ with
      | bad => rw [h1] at z; cases z
      | ex _ _ _ => rw [h1] at z; cases z
      | ok k δ1 =>
        rw [h1] at z
        simp only [R.noex, R.bind] at z
        split at z
        · cases h2 : e σ2 δ1 with
          | bad => rw [h2] at z; cases z
          | ex _ _ _ => rw [h2] at z; cases z
          | ok y δ2 =>
            rw [h2] at z
            simp only at z
            obtain ⟨r, rfl⟩ : ∃ r, y = .bl r := by cases y <;> first | exact ⟨_, rfl⟩ | cases z
            simp only at z
            split at z
            · cases z
            · exact gxGo_noex b g c e σw xs δ2 z
        · exact gxGo_noex b g c e σw xs δ1 z
theorem snd_gx {b : Bool} {vs : List Nat} {g : G} {k : IK} {it ec ee : E} (hi : Snd Er Tb Gv it) (hc : Snd Er Tb Gv ec) (he : Snd Er Tb Gv ee) : Snd Er Tb Gv (.gx b vs g k it ec ee) := by
  refine Snd.val rfl (fun W => rfl) fun W C M σ δ σv H Q p s q => ?_
  refine hi.a W C M σ δ σv H _ p s (RPost.mono (RPost.bind q) fun ds δ1 C1 H1 l1 p1 q1 us r => ?_)
  cases ei : itemsD δ1 k ds with
  | none => rw [ei] at q1; exact q1.elim
  | some xs =>
    rw [ei] at q1
    simp only at q1
    split at q1
    · exact q1.elim
    · rename_i hn
      rw [Bool.or_eq_true, not_or, decide_eq_true_eq, Bool.not_eq_true, Bool.not_eq_false'] at hn
      obtain ⟨Gh, J, gh, w, fin⟩ := items_ok (Tb := Tb) ei r
      refine fin _ ⟨p1.tabs, fun H2 eN T1 => ?_⟩
      have l2 : Le C1 H1 C1 H2 := ⟨⟨[], by simp⟩, fun a h n => absurd h n, fun a o h _ hn => eN a o h hn⟩
      have p2 : Pre K Tb C1 M H2 δ1 := by
        refine ⟨T1, p1.nd, p1.len, p1.cm, fun a m => ?_, fun k ts e => ?_⟩
        · obtain ⟨xs, h, mo⟩ := p1.mh a m
          exact ⟨xs, eN a _ h mo.nt, mo⟩
        · obtain ⟨a, e1, r⟩ := p1.cells k ts e
          exact ⟨a, e1, r.map (fun o co e2 => eN a _ e2 co.nt) (RepL.step p1.cellH l2 inl_)⟩
      have hg : ∀ i, i ∈ gSlots g → i ∈ vs := fun i hi => by
        have := List.all_eq_true.mp hn.2 i hi
        simpa using this
      cases eg : gxGo b g (evA' P ec).t (evA' P ee).v (wipeD σ vs) xs δ1 with
      | bad => rw [eg] at q1; exact q1.elim
      | ex c pl d => exact absurd eg (gxGo_noex _ _ _ _ _ _ _)
      | ok r0 δ2 =>
        rw [eg] at q1
        have q2 : RPost Er Tb C1 M H1 (R.ok (D.bl r0) δ2) (fun d δ' C' H' => ∀ x, RepS K C' M H' d x → (isFresh (.gx b vs g k it ec ee) = true → Frs K Tb M H C' H' δ' d x) → Q x H') (wx W σv) := q1
        exact gx_ok hc he w hg p2 ((s.le p l1).le p1 l2) (fun x hx => Rep.step p1.cellH l2 inl_ _ _ (gh x hx)) eg fun C' H' l p' => q2 C' H' (l2.trans l) p' (.bl r0) mk_bl.repS (no_of rfl)
theorem gsGo_noex (g : G) (c : Sig → Dl → R Bool) (e : Sig → Dl → R D) (σw : Sig) : ∀ (xs : List D) (a : Int) (δ : Dl) {c' : Str} {pl : List D} {d : Dl}, gsGo g c e σw a xs δ ≠ .ex c' pl d
  | [], a, δ, _, _, _ => fun z => by cases z
  | x :: xs, a, δ, c', pl, d => fun z => by
    unfold gsGo at z
    split at z
    · cases z
    · rename_i σ2 _
      cases h1 : c σ2 δ with
      | bad => rw [h1] at z; cases z
      | ex _ _ _ => rw [h1] at z; cases z
      | ok k δ1 =>
        rw [h1] at z
        simp only [R.noex, R.bind] at z
        split at z
        · cases h2 : e σ2 δ1 with
          | bad => rw [h2] at z; cases z
          | ex _ _ _ => rw [h2] at z; cases z
          | ok y δ2 =>
            rw [h2] at z
            simp only at z
            obtain ⟨r, rfl⟩ : ∃ r, y = .int r := by cases y <;> first | exact ⟨_, rfl⟩ | cases z
            simp only at z
            exact gsGo_noex g c e σw xs (a + r) δ2 z
        · exact gsGo_noex g c e σw xs a δ1 z
theorem snd_gsm {vs : List Nat} {g : G} {k : IK} {it ec ee : E} (hi : Snd Er Tb Gv it) (hc : Snd Er Tb Gv ec) (he : Snd Er Tb Gv ee) : Snd Er Tb Gv (.gsm vs g k it ec ee) := by
  refine Snd.val rfl (fun W => rfl) fun W C M σ δ σv H Q p s q => ?_
  refine hi.a W C M σ δ σv H _ p s (RPost.mono (RPost.bind q) fun ds δ1 C1 H1 l1 p1 q1 us r => ?_)
  cases ei : itemsD δ1 k ds with
  | none => rw [ei] at q1; exact q1.elim
  | some xs =>
    rw [ei] at q1
    simp only at q1
    split at q1
    · exact q1.elim
    · rename_i hn
      rw [Bool.or_eq_true, not_or, decide_eq_true_eq, Bool.not_eq_true, Bool.not_eq_false'] at hn
      obtain ⟨Gh, J, gh, w, fin⟩ := items_ok (Tb := Tb) ei r
      refine fin _ ⟨p1.tabs, fun H2 eN T1 => ?_⟩
      have l2 : Le C1 H1 C1 H2 := ⟨⟨[], by simp⟩, fun a h n => absurd h n, fun a o h _ hn => eN a o h hn⟩
      have p2 : Pre K Tb C1 M H2 δ1 := by
        refine ⟨T1, p1.nd, p1.len, p1.cm, fun a m => ?_, fun k ts e => ?_⟩
        · obtain ⟨xs, h, mo⟩ := p1.mh a m
          exact ⟨xs, eN a _ h mo.nt, mo⟩
        · obtain ⟨a, e1, r⟩ := p1.cells k ts e
          exact ⟨a, e1, r.map (fun o co e2 => eN a _ e2 co.nt) (RepL.step p1.cellH l2 inl_)⟩
      have hg : ∀ i, i ∈ gSlots g → i ∈ vs := fun i hi => by
        have := List.all_eq_true.mp hn.2 i hi
        simpa using this
      cases eg : gsGo g (evA' P ec).t (evA' P ee).v (wipeD σ vs) 0 xs δ1 with
      | bad => rw [eg] at q1; exact q1.elim
      | ex c pl d => exact absurd eg (gsGo_noex _ _ _ _ _ _ _)
      | ok r0 δ2 =>
        rw [eg] at q1
        have q2 : RPost Er Tb C1 M H1 (R.ok (D.int r0) δ2) (fun d δ' C' H' => ∀ x, RepS K C' M H' d x → (isFresh (.gsm vs g k it ec ee) = true → Frs K Tb M H C' H' δ' d x) → Q x H') (wx W σv) := q1
        exact gs_ok hc he w hg p2 ((s.le p l1).le p1 l2) (fun x hx => Rep.step p1.cellH l2 inl_ _ _ (gh x hx)) eg fun C' H' l p' => q2 C' H' (l2.trans l) p' (.int r0) mk_int.repS (no_of rfl)
theorem snd_ixm (ha : Snd Er Tb Gv a) (hb : Snd Er Tb Gv b) : Snd Er Tb Gv (.ixm a b) := by
  refine Snd.val rfl (fun W => rfl) fun W C M σ δ σv H Q p s q => ?_
  refine ha.v W C M σ δ σv H _ p s (RPost.mono (RPost.bind q) fun x δ' C' H' l p' q' u ru _ => ?_)
  split at q'
  · rename_i hl
    obtain ⟨ts, et⟩ := ls_of hl
    obtain ⟨ad, vs, e1, e2, e3⟩ := mlst_rep ru et
    refine ⟨by rw [e1]; exact .inl ⟨rfl, vs, SqL.of e2⟩, ?_⟩
    refine hb.v W C' M σ δ' σv H' _ p' (s.le p l) (RPost.mono (RPost.bind q') fun y δ2 C2 H2 l2 p2 q2 v rv _ => ?_)
    obtain ⟨z, e, q3⟩ := RPost.of p2 q2
    have ru2 := ru.step p'.cellH l2 inl_
    obtain ⟨ad2, vs2, g1, g2, g3⟩ := mlst_rep ru2 et
    unfold ixmD at e
    split at e
    · rename_i ds d q4 q5
      split at e
      · rename_i hs
        rw [Bool.and_eq_true] at hs
        obtain ⟨j, ej, rfl⟩ := Option.map_eq_some_iff.mp e
        rw [List.findIdx?_eq_some_iff_getElem] at ej
        obtain ⟨hj, h1, h2⟩ := ej
        have d1 := dpS_of ru2 q4
        rw [g1] at d1
        refine ⟨ad2, v, d, ds, j, ds[j], g1, rfl, d1, dpS_of rv q5, hs.1, hs.2, List.getElem?_eq_getElem hj, h1, fun m z' hm hz => ?_, q3 _ mk_int.repS (no_of rfl)⟩
        obtain ⟨hm2, hz2⟩ := List.getElem?_eq_some_iff.mp hz
        rw [← hz2]
        simpa using h2 m hm
      · cases e
    · cases e
  · exact q'.elim
theorem rng_rg {C : List Addr} {M : Addr → Prop} {H : Hp} (n : Int) : RepL K C M H (rngFrom 0 1 n.toNat) (rgV 0 n) := by
  have key : ∀ (m k : Nat), RepL K C M H (rngFrom (k : Nat) 1 m) ((List.range' k m).map fun i => V.int ((0 : Int) + (i : Nat))) := fun m => by
    induction m with
    | zero => intro k; exact repL_nil
    | succ m ih =>
      intro k
      have e : ((k : Nat) : Int) + 1 = ((k + 1 : Nat) : Int) := by omega
      unfold rngFrom
      rw [List.range'_succ, List.map_cons, e]
      refine repL_cons ?_ (ih (k + 1))
      have e2 : (0 : Int) + (k : Nat) = (k : Nat) := by omega
      rw [e2]
      exact mk_int
  have := key n.toNat 0
  unfold rgV
  rw [List.range_eq_range', show (n - 0).toNat = n.toNat by rw [Int.sub_zero]]
  exact this
theorem snd_lrng (ha : Snd Er Tb Gv a) : Snd Er Tb Gv (.lrng a) := by
  refine Snd.val rfl (fun W => rfl) fun W C M σ δ σv H Q p s q => ?_
  refine ha.v W C M σ δ σv H _ p s (RPost.mono (RPost.bind q) fun x δ' C' H' l p' q' u ru _ => ?_)
  obtain ⟨z, e, q3⟩ : ∃ z, lrngD x = some z ∧ RPost Er Tb C' M H' (R.ok z δ') (fun d δ' C' H' => ∀ (x : V), RepS K C' M H' d x → (isFresh a.lrng = true → Frs K Tb M H C' H' δ' d x) → Q x H') (wx W σv) := by
    cases e : lrngD x with
    | none => rw [e] at q'; exact q'.elim
    | some z => rw [e] at q'; exact ⟨z, rfl, q'⟩
  obtain ⟨n, rfl⟩ : ∃ n, x = .int n := by cases x <;> first | exact ⟨_, rfl⟩ | cases e
  have e' : (if decide (n ≤ 1000000) && decide (-1000000 ≤ n) then some (D.lst (rngFrom 0 1 n.toNat)) else none) = some z := e
  split at e'
  · rename_i hn
    cases e'
    rw [Bool.and_eq_true, decide_eq_true_eq, decide_eq_true_eq] at hn
    refine ⟨n, rep_int (ru.rep rfl), ⟨by omega, by omega, by omega, by omega, by omega⟩, fun q hq => ?_⟩
    exact (post_of (fr := isFresh (.lrng a)) l q3).lst p' (rng_rg n) q hq
  · cases e'
theorem findH_ok {hs : List (Str × Str)} {c s : Str} {cls : Value} {Q : VK} {H : Hp} (hc : c ∈ P.X) (e : findH P.X c hs = some s) (hcls : cls = Er.xv c) (q : Q (.str s) H) {d : Option Addr} : wStr K Er.xv Q hs cls d H := by
  induction hs with
  | nil => cases e
  | cons x r ih =>
    obtain ⟨c', s'⟩ := x
    unfold findH at e
    split at e
    · rename_i hx
      have hx' : c' ∈ P.X := by simpa using hx
      refine ⟨decide (c = c'), by rw [hcls]; exact Er.is c hc c' hx', fun z => ?_, fun z => ?_⟩
      · rw [if_pos (of_decide_eq_true z)] at e
        cases e
        exact q
      · rw [if_neg (of_decide_eq_false z)] at e
        exact ih e
    · cases e
theorem snd_told {hs : List (Str × Str)} (ha : Snd Er Tb Gv a) : Snd Er Tb Gv (.told hs a) := by
  refine Snd.val rfl (fun W => rfl) fun W C M σ δ σv H Q p s q => ?_
  refine ⟨p.tabs, fun H1 eN T1 => ?_⟩
  have l1 : Le C H C H1 := ⟨⟨[], by simp⟩, fun a h n => absurd h n, fun a o h _ hn => eN a o h hn⟩
  have p1 : Pre K Tb C M H1 δ := by
    refine ⟨T1, p.nd, p.len, p.cm, fun a m => ?_, fun k ts e => ?_⟩
    · obtain ⟨xs, h, mo⟩ := p.mh a m
      exact ⟨xs, eN a _ h mo.nt, mo⟩
    · obtain ⟨a, e1, r⟩ := p.cells k ts e
      exact ⟨a, e1, r.map (fun o co e2 => eN a _ e2 co.nt) (RepL.step p.cellH l1 inl_)⟩
  refine ha.v (fun cls d _ H => wStr K Er.xv Q hs cls d H) C M σ δ σv H1 Q p1 (s.le p l1) ?_
  have q := q.le l1
  cases e : (evA' P a).v σ δ with
  | bad => rw [e] at q; exact q.elim
  | ok d δ' =>
    rw [e] at q
    unfold toldE at q
    simp only at q
    split at q
    · exact q.elim
    · exact fun C' H' l p' x r _ => q C' H' l p' x r (no_of rfl)
  | ex c pl δ' =>
    rw [e] at q
    unfold toldE at q
    simp only at q
    split at q
    · rename_i t ef
      intro C' H' cls d l p' x
      exact findH_ok x.1 ef x.2.1 (q C' H' l p' (.str t) mk_str.repS (no_of rfl))
    · exact q.elim
theorem snd (hG : ∀ g C M H, Rep K C M H (P.G g) (Gv g)) : ∀ e : E, Snd Er Tb Gv e
  | .var i => snd_var
  | .int i => Snd.con rfl (fun _ => rfl) rfl fun _ _ _ => mk_int
  | .bl b => Snd.con rfl (fun _ => rfl) rfl fun _ _ _ => mk_bl
  | .non => Snd.con rfl (fun _ => rfl) rfl fun _ _ _ => mk_non
  | .str s => Snd.con rfl (fun _ => rfl) rfl fun _ _ _ => mk_str
  | .ty n => Snd.con rfl (fun _ => rfl) rfl fun _ _ _ => mk_ty
  | .glob g => Snd.con rfl (fun _ => rfl) rfl (hG g)
  | .bin o a b => snd_bin (snd hG a) (snd hG b)
  | .neg a => snd_neg (snd hG a)
  | .cmp o a b => snd_cmp (snd hG a) (snd hG b)
  | .chain o o' a b c => snd_chain (snd hG a) (snd hG b) (snd hG c)
  | .and a b => snd_and (snd hG a) (snd hG b)
  | .or a b => snd_or (snd hG a) (snd hG b)
  | .not a => snd_not (snd hG a)
  | .ite c a b => snd_ite (snd hG c) (snd hG a) (snd hG b)
  | .nil => snd_nil
  | .cons a b => snd_cons (snd hG a) (snd hG b)
  | .tup a => snd_tup (snd hG a)
  | .lst a => snd_lst (snd hG a)
  | .idx a i => snd_idx (snd hG a) (snd hG i)
  | .srt k a => snd_srt (snd hG a)
  | .cnt a b => snd_cnt (snd hG a) (snd hG b)
  | .slc a lo hi => snd_slc (snd hG a) (snd hG lo) (snd hG hi)
  | .np => snd_np
  | .call f a => snd_call (snd hG a)
  | .blt b a => snd_blt (snd hG a)
  | .lc vs g k it c e => snd_lc (snd hG it) (snd hG c) (snd hG e)
  | .gx _ _ _ _ it c e => snd_gx (snd hG it) (snd hG c) (snd hG e)
  | .gsm _ _ _ it c e => snd_gsm (snd hG it) (snd hG c) (snd hG e)
  | .fdv a b => snd_fdv (snd hG a) (snd hG b)
  | .uni _ _ _ it c _ _ _ it1 c1 e => snd_uni (snd hG it) (snd hG c) (snd hG it1) (snd hG c1) (snd hG e)
  | .ixm a b => snd_ixm (snd hG a) (snd hG b)
  | .lrng a => snd_lrng (snd hG a)
  | .fld c f a => snd_fld (snd hG a)
  | .dnew => snd_dnew
  | .din _ a b => snd_din (snd hG a) (snd hG b)
  | .dget a b => snd_dget (snd hG a) (snd hG b)
  | .dgeto a b c => snd_dgeto (snd hG a) (snd hG b) (snd hG c)
  | .mcl c m f o a => snd_mcl (snd hG o) (snd hG a)
  | .mk c f a => snd_mk (snd hG a)
  | .newc a => snd_newc (snd hG a)
  | .scope a => snd_scope (snd hG a)
  | .lend _ a => snd_lend (snd hG a)
  | .told hs a => snd_told (snd hG a)
  | .tab1 _ _ => snd_tab1
  | .sel _ _ a => snd_sel (snd hG a)
end
end Mini

namespace Mini
open PySem PySem.Spec PyProof.Rows L2
def ownA (σ : Sig) (σv : L2.St) (a : Addr) : Prop := ∃ (i : Nat) (ts : List D), σ[i]? = some (some (.own ts)) ∧ σv[i]? = some (some (.ref a))
def MM (M0 : Addr → Prop) (σ : Sig) (σv : L2.St) (a : Addr) : Prop := M0 a ∨ ownA σ σv a
structure Good (K : PySem.W.Frag) (Tb : List (Addr × Str)) (M0 : Addr → Prop) (C0 : List Addr) (H0 : Hp) (Gh : List (D × V)) (C : List Addr) (σ : Sig) (σv : L2.St) (H : Hp) (δ : Dl) : Prop where
  pre : Pre K Tb C (MM M0 σ σv) H δ
  sl : Sl K C (MM M0 σ σv) H σ σv
  le : Le C0 H0 C H
  own : ∀ a, ownA σ σv a → NT H0 a ∧ ¬ M0 a
  inj : ∀ (i j : Nat) (ts us : List D) (a : Addr), σ[i]? = some (some (.own ts)) → σv[i]? = some (some (.ref a)) → σ[j]? = some (some (.own us)) → σv[j]? = some (some (.ref a)) → i = j
  gh : ∀ g, g ∈ Gh → Rep K C (MM M0 σ σv) H g.1 g.2
section
variable {K : PySem.W.Frag} {Tb : List (Addr × Str)} {M0 : Addr → Prop} {C0 C C' : List Addr} {H0 H H' : Hp} {Gh : List (D × V)} {σ : Sig} {σv : L2.St} {δ δ' : Dl}
theorem Good.step (g : Good K Tb M0 C0 H0 Gh C σ σv H δ) (l : Le C H C' H') (p : Pre K Tb C' (MM M0 σ σv) H' δ') : Good K Tb M0 C0 H0 Gh C' σ σv H' δ' :=
  ⟨p, g.sl.le g.pre l, g.le.trans l, g.own, g.inj, fun x hx => Rep.step g.pre.cellH l inl_ _ _ (g.gh x hx)⟩
theorem Good.less {Gh' : List (D × V)} (g : Good K Tb M0 C0 H0 Gh C σ σv H δ) (h : ∀ x, x ∈ Gh' → x ∈ Gh) : Good K Tb M0 C0 H0 Gh' C σ σv H δ := ⟨g.pre, g.sl, g.le, g.own, g.inj, fun x hx => g.gh x (h x hx)⟩
theorem Good.more {Gh' : List (D × V)} (g : Good K Tb M0 C0 H0 Gh C σ σv H δ) (h : ∀ x, x ∈ Gh' → Rep K C (MM M0 σ σv) H x.1 x.2) : Good K Tb M0 C0 H0 (Gh' ++ Gh) C σ σv H δ :=
  ⟨g.pre, g.sl, g.le, g.own, g.inj, fun x hx => (List.mem_append.mp hx).elim (h x) (g.gh x)⟩
theorem Good.stored (g : Good K Tb M0 C0 H0 Gh C σ σv H δ) {σ' : Sig} {σv' : L2.St} (s : Sl K C (MM M0 σ σv) H σ' σv')
    (h : ∀ (i : Nat) (ts : List D), σ'[i]? = some (some (.own ts)) → σ[i]? = some (some (.own ts)) ∧ σv'[i]? = σv[i]?) : Good K Tb M0 C0 H0 Gh C σ' σv' H δ := by
  have ow : ∀ a, ownA σ' σv' a → ownA σ σv a := fun a ⟨i, ts, e1, e2⟩ => by
    obtain ⟨h1, h2⟩ := h i ts e1
    exact ⟨i, ts, h1, by rw [← h2]; exact e2⟩
  have mm : ∀ a, MM M0 σ' σv' a → MM M0 σ σv a := fun a z => z.elim .inl fun z => .inr (ow a z)
  refine ⟨g.pre.sub mm, s.step g.pre.cellH (Le.refl C H) fun a z => .inl (mm a z), g.le, fun a z => g.own a (ow a z), fun i j ts us a e1 e2 e3 e4 => ?_, fun x hx => Rep.sub mm _ _ (g.gh x hx)⟩
  obtain ⟨h1, h2⟩ := h i ts e1
  obtain ⟨h3, h4⟩ := h j us e3
  rw [h2] at e2
  rw [h4] at e4
  exact g.inj i j ts us a h1 e2 h3 e4
theorem setMany_own : ∀ {is : List Nat} {ds : List D} {σ σ' : Sig}, setMany is ds σ = some σ' → ∀ (i : Nat) (ts : List D), σ'[i]? = some (some (.own ts)) → σ[i]? = some (some (.own ts)) ∧ i ∉ is
  | [], [], σ, σ', e, i, ts, h => by cases e; exact ⟨h, by simp⟩
  | [], d :: ds, σ, σ', e, i, ts, h => by cases e
  | j :: is, [], σ, σ', e, i, ts, h => by cases e
  | j :: is, d :: ds, σ, σ', e, i, ts, h => by
    unfold setMany at e
    split at e
    · cases e
    · rename_i hd
      obtain ⟨h1, h2⟩ := setMany_own e i ts h
      by_cases hj : j = i
      · subst hj
        by_cases hl : j < σ.length
        · rw [List.getElem?_set_self hl] at h1
          cases h1
          exact absurd rfl hd
        · rw [List.getElem?_eq_none (by rw [List.length_set]; omega)] at h1; cases h1
      · rw [List.getElem?_set_ne hj] at h1
        exact ⟨h1, by simp only [List.mem_cons, not_or]; exact ⟨Ne.symm hj, h2⟩⟩
theorem set_own {i : Nat} {d : D} (hd : isOwn d = false) (j : Nat) (ts : List D) (h : (σ.set i (some d))[j]? = some (some (.own ts))) : σ[j]? = some (some (.own ts)) ∧ j ≠ i := by
  by_cases hj : i = j
  · subst hj
    by_cases hl : i < σ.length
    · rw [List.getElem?_set_self hl] at h
      cases h
      cases hd
    · rw [List.getElem?_eq_none (by rw [List.length_set]; omega)] at h; cases h
  · rw [List.getElem?_set_ne hj] at h
    exact ⟨h, Ne.symm hj⟩
theorem setG_own {g : G} {d : D} {σ' : Sig} (e : setG g d σ = some σ') (i : Nat) (ts : List D) (h : σ'[i]? = some (some (.own ts))) : σ[i]? = some (some (.own ts)) ∧ i ∉ gSlots g := by
  unfold setG at e
  split at e
  · split at e
    · cases e
    · rename_i hd
      cases e
      obtain ⟨h1, h2⟩ := set_own (by simpa using hd) i ts h
      exact ⟨h1, fun z => h2 (List.mem_singleton.mp z)⟩
  · exact setMany_own e i ts h
  · exact setMany_own e i ts h
  · split at e
    · cases e
    · rename_i hd
      rw [Option.map_eq_some_iff] at e
      obtain ⟨σ1, e, e2⟩ := e
      subst e2
      obtain ⟨h1, h2⟩ := set_own (by simpa using hd) i ts h
      obtain ⟨h3, h4⟩ := setMany_own e i ts h1
      exact ⟨h3, fun z => (List.mem_append.mp z).elim h4 fun z => h2 (List.mem_singleton.mp z)⟩
  · cases e
theorem Good.target (g : Good K Tb M0 C0 H0 Gh C σ σv H δ) {t : G} {d : D} {v : V} {σ' : Sig} {Q : L2.St → Hp → Prop} (e : setG t d σ = some σ') (r : RepS K C (MM M0 σ σv) H d v)
    (q : ∀ σv', Good K Tb M0 C0 H0 Gh C σ' σv' H δ → Q σv' H) : gK K t v σv H Q :=
  setG_ok e r g.sl fun σv' s off => q σv' (g.stored s fun i ts h => by
    obtain ⟨h1, h2⟩ := setG_own e i ts h
    exact ⟨h1, off.2 i h2⟩)
theorem Good.take (g : Good K Tb M0 C0 H0 Gh C σ σv H δ) (l : Le C H C' H') {ts : List D} {v : V} {i : Nat} (r : Rep K C' (MM M0 σ σv) H' (.lst ts) v) (f : Frs K Tb (MM M0 σ σv) H C' H' δ' (.lst ts) v) :
    Good K Tb M0 C0 H0 Gh C' (σ.set i (some (.own ts))) (σv.set i (some v)) H' δ' := by
  obtain ⟨a, vs, e1, nt, nc, ha, pf, rf⟩ := f ts rfl
  subst e1
  obtain ⟨b, ws, e2, nm, _, _, _⟩ := rep_lst r
  cases e2
  have ow : ∀ x, ownA (σ.set i (some (.own ts))) (σv.set i (some (.ref a))) x → ownA σ σv x ∨ x = a := fun x ⟨j, us, h1, h2⟩ => by
    by_cases hj : i = j
    · subst hj
      by_cases hl : i < σv.length
      · rw [List.getElem?_set_self hl] at h2; cases h2; exact .inr rfl
      · rw [List.getElem?_eq_none (by rw [List.length_set]; omega)] at h2; cases h2
    · rw [List.getElem?_set_ne hj] at h1 h2
      exact .inl ⟨j, us, h1, h2⟩
  have mm : ∀ x, MM M0 (σ.set i (some (.own ts))) (σv.set i (some (.ref a))) x → MM M0 σ σv x ∨ x = a := fun x z => z.elim (fun z => .inl (.inl z)) fun z => (ow x z).elim (fun z => .inl (.inr z)) .inr
  have hm : ∀ x, MM M0 (σ.set i (some (.own ts))) (σv.set i (some (.ref a))) x → MM M0 σ σv x ∨ NT H x := fun x z => (mm x z).elim .inl fun z => .inr (by rw [z]; exact nt)
  have nt0 : NT H0 a := nt.back g.le.ext fun z => nc (l.mem (g.le.mem z))
  have old : ∀ x, ownA σ σv x → x ≠ a := fun x z e => by
    obtain ⟨xs, q, mo⟩ := g.pre.mh x (.inr z)
    rw [e] at q
    exact nt.not q mo.nt
  refine ⟨pf.sub mm, (g.sl.step g.pre.cellH l hm).set i ⟨a, vs, rfl, nc, ha, RepL.sub mm _ _ rf⟩, g.le.trans l, fun x z => ?_, fun j k us ws x h1 h2 h3 h4 => ?_, fun x hx => Rep.step g.pre.cellH l hm _ _ (g.gh x hx)⟩
  · rcases ow x z with z | z
    · exact g.own x z
    · rw [z]; exact ⟨nt0, fun y => nm (.inl y)⟩
  · by_cases hj : i = j
    · by_cases hk : i = k
      · omega
      · subst hj
        rw [List.getElem?_set_ne hk] at h3 h4
        have hl : i < σv.length := by
          have := (List.getElem?_eq_some_iff.mp h2).1
          rwa [List.length_set] at this
        rw [List.getElem?_set_self hl] at h2
        cases h2
        exact absurd rfl (old a ⟨k, ws, h3, h4⟩)
    · rw [List.getElem?_set_ne hj] at h1 h2
      by_cases hk : i = k
      · subst hk
        have hl : i < σv.length := by
          have := (List.getElem?_eq_some_iff.mp h4).1
          rwa [List.length_set] at this
        rw [List.getElem?_set_self hl] at h4
        cases h4
        exact absurd rfl (old a ⟨j, us, h1, h2⟩)
      · rw [List.getElem?_set_ne hk] at h3 h4
        exact g.inj j k us ws x h1 h2 h3 h4
theorem Good.write (g : Good K Tb M0 C0 H0 Gh C σ σv H δ) {i : Nat} {ts us : List D} {a : Addr} {ws : List V} (e : σ[i]? = some (some (.own ts))) (e' : σv[i]? = some (some (.ref a)))
    (r : RepL K C (MM M0 σ σv) H us ws) : Good K Tb M0 C0 H0 Gh C (σ.set i (some (.own us))) σv (upd H a (.lst ws)) δ := by
  have oa : ownA σ σv a := ⟨i, ts, e, e'⟩
  obtain ⟨vs0, hv, ⟨b, vs, eb, nc, hb, rb⟩⟩ := g.sl.at_ i _ e
  rw [e'] at hv; cases hv; cases eb
  have wr : Wr H (upd H a (.lst ws)) a := ⟨⟨_, hb, CO.lst⟩, fun x o n h => by rw [upd_ne n]; exact h⟩
  have ow : ∀ x, ownA (σ.set i (some (.own us))) σv x ↔ ownA σ σv x := fun x => by
    constructor
    · rintro ⟨j, zs, h1, h2⟩
      by_cases hj : i = j
      · subst hj; exact ⟨i, ts, e, h2⟩
      · rw [List.getElem?_set_ne hj] at h1; exact ⟨j, zs, h1, h2⟩
    · rintro ⟨j, zs, h1, h2⟩
      by_cases hj : i = j
      · subst hj; exact ⟨i, us, List.getElem?_set_self (List.getElem?_eq_some_iff.mp e).1, h2⟩
      · exact ⟨j, zs, by rw [List.getElem?_set_ne hj]; exact h1, h2⟩
  have mm : MM M0 (σ.set i (some (.own us))) σv = MM M0 σ σv := by
    funext x
    exact propext ⟨fun z => z.elim .inl fun z => .inr ((ow x).mp z), fun z => z.elim .inl fun z => .inr ((ow x).mpr z)⟩
  have ma : MM M0 σ σv a := .inr oa
  have cn : ∀ x, x ∈ C → x ≠ a := fun x hx z => nc (by rw [← z]; exact hx)
  have pre' : Pre K Tb C (MM M0 σ σv) (upd H a (.lst ws)) δ := by
    refine ⟨wr.tabs g.pre.tabs, g.pre.nd, g.pre.len, g.pre.cm, wr.mh (fun _ => ⟨_, upd_same, MO.lst⟩) g.pre.mh, fun k zs ek => ?_⟩
    obtain ⟨x, h1, h3⟩ := g.pre.cells k zs ek
    exact ⟨x, h1, h3.map (fun o _ h2 => wr.oth x o (cn x (List.mem_of_getElem? h1)) h2) (RepL.wr (.inl ma) wr)⟩
  refine ⟨by rw [mm]; exact pre', ?_, ?_, fun x z => g.own x ((ow x).mp z), fun j k ys zs x h1 h2 h3 h4 => ?_, fun x hx => by rw [mm]; exact Rep.wr (.inl ma) wr _ _ (g.gh x hx)⟩
  · rw [mm]
    refine ⟨by rw [List.length_set]; exact g.sl.len, fun j d h => ?_⟩
    by_cases hj : i = j
    · subst hj
      rw [List.getElem?_set_self (List.getElem?_eq_some_iff.mp e).1] at h
      cases h
      exact ⟨.ref a, e', a, ws, rfl, nc, upd_same, RepL.wr (.inl ma) wr _ _ r⟩
    · rw [List.getElem?_set_ne hj] at h
      obtain ⟨v, h1, h2⟩ := g.sl.at_ j d h
      refine ⟨v, h1, ?_⟩
      cases d
      case own zs =>
        obtain ⟨x, rs, ex, nx, hx, rx⟩ := h2
        subst ex
        exact ⟨x, rs, rfl, nx, wr.oth x _ (fun z => hj (by rw [z] at h1; exact g.inj i j ts zs a e e' h h1)) hx, RepL.wr (.inl ma) wr _ _ rx⟩
      all_goals exact Rep.wr (.inl ma) wr _ _ h2
  · refine ⟨g.le.pre, g.le.new, fun x o h n hn => ?_⟩
    have := g.le.ext x o h n hn
    rw [upd_ne]
    · exact this
    · intro z
      rw [z] at h
      exact (g.own a oa).1.not h hn
  · have old : ∀ (j : Nat) (ys : List D), (σ.set i (some (.own us)))[j]? = some (some (.own ys)) → ∃ ys', σ[j]? = some (some (.own ys')) := fun j ys h => by
      by_cases hj : i = j
      · subst hj; exact ⟨ts, e⟩
      · rw [List.getElem?_set_ne hj] at h; exact ⟨ys, h⟩
    obtain ⟨y1, q1⟩ := old j ys h1
    obtain ⟨y2, q2⟩ := old k zs h3
    exact g.inj j k y1 y2 x q1 h2 q2 h4
theorem Good.writeC (g : Good K Tb M0 C0 H0 Gh C σ σv H δ) {k : Nat} {a : Addr} {us : List D} {o : HO} (e : C[k]? = some a) (r : ∀ H', Wr H H' a → H' a = some o → CellR K C (MM M0 σ σv) H' a us) : Good K Tb M0 C0 H0 Gh C σ σv (upd H a o) (δ.set k us) := by
  have ac : a ∈ C := List.mem_of_getElem? e
  have wr : Wr H (upd H a o) a := ⟨g.pre.cellH a ac, fun x o n h => by rw [upd_ne n]; exact h⟩
  have kl : k < δ.length := by rw [← g.pre.len]; exact (List.getElem?_eq_some_iff.mp e).1
  refine ⟨⟨wr.tabs g.pre.tabs, g.pre.nd, by rw [List.length_set]; exact g.pre.len, g.pre.cm, wr.mh (fun m => absurd m (g.pre.cm a ac)) g.pre.mh, fun j zs ej => ?_⟩, ⟨g.sl.len, fun j d h => ?_⟩, ⟨g.le.pre, g.le.new, fun x o h n hn => ?_⟩, g.own, g.inj, fun x hx => Rep.wr (.inr ac) wr _ _ (g.gh x hx)⟩
  · by_cases hj : k = j
    · subst hj
      rw [List.getElem?_set_self kl] at ej
      cases ej
      exact ⟨a, e, r _ wr upd_same⟩
    · rw [List.getElem?_set_ne hj] at ej
      obtain ⟨x, h1, h3⟩ := g.pre.cells j zs ej
      refine ⟨x, h1, h3.map (fun o _ h2 => wr.oth x o (fun z => hj ?_) h2) (RepL.wr (.inr ac) wr)⟩
      rw [z] at h1
      obtain ⟨l1, q1⟩ := List.getElem?_eq_some_iff.mp e
      obtain ⟨l2, q2⟩ := List.getElem?_eq_some_iff.mp h1
      exact (List.getElem_inj g.pre.nd).mp (q1.trans q2.symm)
  · obtain ⟨v, h1, h2⟩ := g.sl.at_ j d h
    refine ⟨v, h1, ?_⟩
    cases d
    case own zs =>
      obtain ⟨x, rs, ex, nx, hx, rx⟩ := h2
      exact ⟨x, rs, ex, nx, wr.oth x _ (fun z => nx (by rw [z]; exact ac)) hx, RepL.wr (.inr ac) wr _ _ rx⟩
    all_goals exact Rep.wr (.inr ac) wr _ _ h2
  · have := g.le.ext x o h n hn
    rw [upd_ne]
    · exact this
    · intro z
      rw [z] at h n
      exact (g.le.new a ac n).not h hn
theorem Good.writeCell (g : Good K Tb M0 C0 H0 Gh C σ σv H δ) {k : Nat} {a : Addr} {us : List D} {ws : List V} (e : C[k]? = some a) (ni : insOf us = none) (r : RepL K C (MM M0 σ σv) H us ws) : Good K Tb M0 C0 H0 Gh C σ σv (upd H a (.lst ws)) (δ.set k us) :=
  g.writeC e fun H' w h => CellR.mk ni h (RepL.wr (.inr (List.mem_of_getElem? e)) w _ _ r)
theorem Good.writeIns (g : Good K Tb M0 C0 H0 Gh C σ σv H δ) {k : Nat} {a dx : Addr} {c : String} (nd : c ≠ "dict") {us : List D} {fv : List (Str × V)} (e : C[k]? = some a) (r : RepF K C (MM M0 σ σv) H us fv) : Good K Tb M0 C0 H0 Gh C σ σv (upd H a (.ins (clsA K c) dx fv)) (δ.set k (.ty c :: us)) :=
  g.writeC e fun H' w h => CellR.mkIns nd h (RepF.map (Rep.wr (.inr (List.mem_of_getElem? e)) w) _ _ r)
theorem Good.writeDic (g : Good K Tb M0 C0 H0 Gh C σ σv H δ) {k : Nat} {a : Addr} {us : List D} {vs : List V} {xs : DM.Ens} (e : C[k]? = some a) (r : RepL K C (MM M0 σ σv) H us vs) (x : DicX us vs xs) (n : (xs.map (·.1)).Nodup) : Good K Tb M0 C0 H0 Gh C σ σv (upd H a (DM.dO a xs)) (δ.set k (.ty "dict" :: us)) :=
  g.writeC e fun H' w h => CellR.mkDic h (RepL.wr (.inr (List.mem_of_getElem? e)) w _ _ r) x n
theorem Good.freeze (g : Good K Tb M0 C0 H0 Gh C σ σv H δ) {i : Nat} {ts : List D} (e : σ[i]? = some (some (.own ts))) : Good K Tb M0 C0 H0 Gh C (σ.set i (some (.lst ts))) σv H δ := by
  obtain ⟨v, ev, ⟨a, vs, ea, nc, ha, ra⟩⟩ := g.sl.at_ i _ e
  subst ea
  have ow : ∀ x, ownA (σ.set i (some (.lst ts))) σv x → ownA σ σv x ∧ x ≠ a := fun x ⟨j, zs, h1, h2⟩ => by
    obtain ⟨h3, h4⟩ := set_own (d := .lst ts) rfl j zs h1
    refine ⟨⟨j, zs, h3, h2⟩, fun z => h4 ?_⟩
    rw [z] at h2
    exact g.inj j i zs ts a h3 h2 e ev
  have mm : ∀ x, MM M0 (σ.set i (some (.lst ts))) σv x → MM M0 σ σv x := fun x z => z.elim .inl fun z => .inr (ow x z).1
  have na : ¬ MM M0 (σ.set i (some (.lst ts))) σv a := fun z => z.elim (g.own a ⟨i, ts, e, ev⟩).2 fun z => (ow a z).2 rfl
  refine ⟨g.pre.sub mm, ⟨by rw [List.length_set]; exact g.sl.len, fun j d h => ?_⟩, g.le, fun x z => g.own x (ow x z).1, fun j k ys zs x h1 h2 h3 h4 => ?_, fun x hx => Rep.sub mm _ _ (g.gh x hx)⟩
  · by_cases hj : i = j
    · subst hj
      rw [List.getElem?_set_self (List.getElem?_eq_some_iff.mp e).1] at h
      cases h
      refine ⟨.ref a, ev, ?_⟩
      show Rep K _ _ _ _ _
      unfold Rep
      exact ⟨a, vs, rfl, na, nc, ha, RepL.sub mm _ _ ra⟩
    · rw [List.getElem?_set_ne hj] at h
      obtain ⟨v, h1, h2⟩ := g.sl.at_ j d h
      exact ⟨v, h1, h2.step g.pre.cellH (Le.refl C H) fun a z => .inl (mm a z)⟩
  · exact g.inj j k ys zs x (set_own (d := .lst ts) rfl j ys h1).1 h2 (set_own (d := .lst ts) rfl k zs h3).1 h4
end
end Mini

namespace Mini
open PySem PySem.Spec PyProof.Rows L2
def setAll : L2.St → List Nat → List V → L2.St
  | σ, i :: is, v :: vs => setAll (σ.set i (some v)) is vs
  | σ, _, _ => σ
def tMono (ta : TA) : TA := fun σ H Q => ∃ Q0, ta σ H Q0 ∧ ∀ vs H1, Q0 vs H1 → Q vs H1
theorem pa_mono {X : Cx} {es : List Expr} {ta : TA} (h : PA X es ta) : PA X es (tMono ta) := ⟨fun pos pins s σ H Q I ⟨Q0, h0, hm⟩ => thn (h.run pos pins s σ H _ I h0) fun us s1 ⟨xs, H1, I1, r, q⟩ => ⟨xs, H1, I1, r, hm _ _ q⟩⟩
theorem setAll_names : ∀ (is : List Nat) (vs : List V) (σ : L2.St) (H : Hp) (Q : L2.St → Hp → Prop), vs.length = is.length → Q (setAll σ is vs) H → gNames is vs σ H Q
  | [], [], σ, H, Q, _, q => ⟨rfl, q⟩
  | [], _ :: _, _, _, _, e, _ => by cases e
  | _ :: _, [], _, _, _, e, _ => by cases e
  | i :: is, v :: vs, σ, H, Q, e, q => ⟨v, vs, rfl, setAll_names is vs _ H Q (by simpa using e) q⟩
def tParL (is : List Nat) (ta : TA) : TS := fun D σ H => ta σ H fun vs H1 => vs.length = is.length ∧ D.nx (setAll σ is vs) H1
def OPost {K : PySem.W.Frag} {X : List Str} (Er : Errs K X) (Tb : List (Addr × Str)) (M0 : Addr → Prop) (C0 : List Addr) (H0 : Hp) (Gh : List (D × V)) (W : WX) (D : Ends) : O → Prop
  | .nx σ δ => ∀ C σv H, Good K Tb M0 C0 H0 Gh C σ σv H δ → D.nx σv H
  | .bk σ δ => ∀ C σv H, Good K Tb M0 C0 H0 Gh C σ σv H δ → D.bk σv H
  | .ct σ δ => ∀ C σv H, Good K Tb M0 C0 H0 Gh C σ σv H δ → D.ct σv H
  | .rt d δ => isOwn d = false ∧ ∀ C H v, Le C0 H0 C H → Pre K Tb C M0 H δ → Rep K C M0 H d v → D.rt v H
  | .ex c p σ δ => ∀ C σv H cls d, Good K Tb M0 C0 H0 Gh C σ σv H δ → XRel Er C (MM M0 σ σv) H c p cls d → W cls d σv H
  | .bad => False
section
variable {K : PySem.W.Frag} (P : Par) (Er : Errs K P.X) (Tb : List (Addr × Str)) (Gv : Nat → V) (W : WX)
def refA : Value → Addr
  | .ref a => a
  | _ => 0
def tsF (i : Nat) (c : Str) : Addr → Value → Option Addr → TS := fun a cls d => tRet (tXf a cls d (refA (Er.xv c)) (Er.xf c) (tVar i))
def rdS : S → TS
  | .skip => tNext
  | .pass => tNext
  | .seq a b => tSeq (rdS a) (rdS b)
  | .expr e => tDrop (rd P Er Tb Gv e W).v
  | .asg g e => tAsg (rd P Er Tb Gv e W).v (gK K g)
  | .asgO i e => tAsg (rd P Er Tb Gv e W).v (gName i)
  | .par is a => tParL (is.map (·.1)) (rd P Er Tb Gv a W).a
  | .asgT is a => tAsg (tTup (tMono (rd P Er Tb Gv a W).a)) (gK K (.tup (is.map (·.1))))
  | .setx o ix e => tAsg (rd P Er Tb Gv e W).v (gSub (rd P Er Tb Gv o W).v (rd P Er Tb Gv ix W).v rSetL)
  | .aug i o e => tAug i (rd P Er Tb Gv e W).v (rAug o)
  | .setf c i f e => IN.sFldC (clsA K c) f (tVar i) (rd P Er Tb Gv e W).v
  | .augf c i f o e => IN.sFldAugC (clsA K c) f (rAug o) (tVar i) (rd P Er Tb Gv e W).v
  | .dsetd i k e => tDrop (DM.tSetdI K (tVar i) (rd P Er Tb Gv k W).v (rd P Er Tb Gv e W).v)
  | .dput i k e => DM.sPutI K (tVar i) (rd P Er Tb Gv k W).v (rd P Er Tb Gv e W).v
  | .app i e => tDrop (tBM K "list" rAppend (tVar i) (tCons (rd P Er Tb Gv e W).v tNil))
  | .ext i e => tDrop (tBM K "list" rExtend (tVar i) (tCons (rd P Er Tb Gv e W).v tNil))
  | .pop i => tDrop (tBM0 K "list" rPop (tVar i))
  | .augx i ix o e => tAugS (tVar i) (rd P Er Tb Gv ix W).v (rd P Er Tb Gv e W).v (rIxL K) (rAug o) rSetL
  | .tryF i e c => fun D σ H => tDrop (rd P Er Tb Gv e (wAs K (Er.xv c) i (tsF P Er i c) W D)).v D σ H
  | .ite c a b => tIfS (rd P Er Tb Gv c W).t (rdS a) (rdS b)
  | .whl c b => tWhile (rd P Er Tb Gv c W).t (rdS b)
  | .for g k it b => tFor (rI (K := K) k (rd P Er Tb Gv it W).a) (gK K g) (rdS b)
  | .ret e => tRet (rd P Er Tb Gv e W).v
  | .retN => tRetN
  | .rais c => fun _ σ H => W (Er.xv c) none σ H
  | .raisP c e => fun _ σ H => (rd P Er Tb Gv e W).v σ H fun v H1 => ∀ d, H1 d = none → W (Er.xv c) (some d) σ (upd H1 d (.xd [(Er.xf c, v)]))
  | .brk => tBreak
  | .cont => tCont
  | .frz _ s => rdS s
  | .raw => fun _ _ _ => False
  | .lams w k lcs rhs es => fun Dn σv H => (∀ e, Snd Er Tb Gv e) ∧ ∃ (M0 : Addr → Prop) (C0 : List Addr) (H0 : Hp) (Gh : List (D × V)) (C : List Addr) (σ : Sig) (δ : Dl), Good K Tb M0 C0 H0 Gh C σ σv H δ ∧ OPost Er Tb M0 C0 H0 Gh W Dn (lamsEv P w k lcs rhs es σ δ)
termination_by structural s => s
end
section
variable {K : PySem.W.Frag} {P : Par} {Er : Errs K P.X} {Tb : List (Addr × Str)} {Gv : Nat → V} {M0 : Addr → Prop} {C0 : List Addr} {H0 : Hp}
variable {Gh : List (D × V)} {C C' : List Addr} {σ : Sig} {σv : L2.St} {H H' : Hp} {δ δ' : Dl} {W : WX} {Dn : Ends}
theorem MM.sub0 : ∀ a, M0 a → MM M0 σ σv a := fun a z => .inl z
theorem OPost.then {α : Type} {r : R α} {f : α → Dl → O} (g : Good K Tb M0 C0 H0 Gh C σ σv H δ) (q : OPost Er Tb M0 C0 H0 Gh W Dn (R.then r σ f)) {Qok : α → Dl → List Addr → Hp → Prop}
    (h : ∀ a δ' C' H', Le C H C' H' → Good K Tb M0 C0 H0 Gh C' σ σv H' δ' → OPost Er Tb M0 C0 H0 Gh W Dn (f a δ') → Qok a δ' C' H') : RPost Er Tb C (MM M0 σ σv) H r Qok (wx W σv) := by
  cases r with
  | ok a δ' => exact fun C' H' l p => h a δ' C' H' l (g.step l p) q
  | ex c pl δ' => exact fun C' H' cls d l p x => q C' σv H' cls d (g.step l p) x
  | bad => exact q
variable (sn : ∀ e, Snd Er Tb Gv e)
def SndS (n : Nat) (s : S) : Prop := ∀ (M0 : Addr → Prop) (C0 : List Addr) (H0 : Hp) (Gh : List (D × V)) (C : List Addr) (σ : Sig) (σv : L2.St) (H : Hp) (δ : Dl) (W : WX) (Dn : Ends),
  Good K Tb M0 C0 H0 Gh C σ σv H δ → OPost Er Tb M0 C0 H0 Gh W Dn (evS P n s σ δ) → rdS P Er Tb Gv W s Dn σv H
theorem par_ok (sn : ∀ e, Snd Er Tb Gv e) {σ0 : Sig} {σv0 : L2.St} {Cs : List Addr} {Hs : Hp} {δs : Dl} {F : L2.St → Hp → Prop} (g0 : Good K Tb M0 C0 H0 Gh Cs σ0 σv0 Hs δs) : ∀ (is : List (Nat × Bool)) (a : E) (N : Addr → Prop) (C : List Addr) (σ : Sig) (σv : L2.St) (H : Hp) (δ : Dl),
    Pre K Tb C N H δ → Sl K C N H σ0 σv0 → Sl K C N H σ σv → Le Cs Hs C H → (∀ a, MM M0 σ0 σv0 a → N a) → (∀ a, ownA σ σv a → N a ∧ NT H0 a ∧ ¬ M0 a) →
    (∀ (i j : Nat) (ts us : List D) (a : Addr), σ[i]? = some (some (.own ts)) → σv[i]? = some (some (.ref a)) → σ[j]? = some (some (.own us)) → σv[j]? = some (some (.ref a)) → i = j) →
    (∀ g, g ∈ Gh → Rep K C N H g.1 g.2) →
    OPost Er Tb M0 C0 H0 Gh W { Dn with nx := F } (parGo P σ0 is a σ δ) → (rd P Er Tb Gv a W).a σv0 H fun vs H1 => vs.length = (is.map (·.1)).length ∧ F (setAll σv (is.map (·.1)) vs) H1
  | [], a, N, C, σ, σv, H, δ, p, s0, s, l, m0, ow, inj, gh, q => by
    cases a <;> first | exact q.elim | skip
    case nil =>
    refine ⟨rfl, q C σv H ?_⟩
    have mm : ∀ a, MM M0 σ σv a → N a := fun a z => z.elim (fun z => m0 a (.inl z)) fun z => (ow a z).1
    exact ⟨p.sub mm, s.step p.cellH (Le.refl C H) fun a z => .inl (mm a z), g0.le.trans l, fun a z => (ow a z).2, inj, fun x hx => Rep.sub mm _ _ (gh x hx)⟩
  | (i, w) :: is, a, N, C, σ, σv, H, δ, p, s0, s, l, m0, ow, inj, gh, q => by
    cases a <;> first | exact q.elim | skip
    case cons a b =>
    unfold parGo at q
    have q' := q
    clear q
    refine (sn a).v W C N σ0 δ σv0 H _ p s0 ?_
    cases ea : (evA' P a).v σ0 δ with
    | bad => rw [ea] at q'; exact q'.elim
    | ex c pl d =>
      rw [ea] at q'
      intro C' H' cls dd l' p' x
      have g' : Good K Tb M0 C0 H0 Gh C' σ0 σv0 H' d := g0.step (l.trans l') (p'.sub m0)
      refine q' C' σv0 H' cls dd g' ⟨x.1, x.2.1, ?_⟩
      cases pl with
      | nil => exact x.2.2
      | cons t r =>
        obtain ⟨z, v, e1, e2, e3⟩ := x.2.2
        exact ⟨z, v, e1, e2, Rep.sub m0 _ _ e3⟩
    | ok d δ1 =>
      rw [ea] at q'
      intro C' H' l' p' x r f
      have key : ∀ (d2 : D) (N' : Addr → Prop), Pre K Tb C' N' H' δ1 → (∀ a, N' a → N a ∨ NT H a) → (∀ a, N a → N' a) → RepS K C' N' H' d2 x →
          (∀ a, ownA (σ.set i (some d2)) (σv.set i (some x)) a → ownA σ σv a ∨ (N' a ∧ NT H a ∧ ¬ M0 a)) →
          (∀ (j k : Nat) (ts us : List D) (a : Addr), (σ.set i (some d2))[j]? = some (some (.own ts)) → (σv.set i (some x))[j]? = some (some (.ref a)) → (σ.set i (some d2))[k]? = some (some (.own us)) → (σv.set i (some x))[k]? = some (some (.ref a)) → j = k) →
          OPost Er Tb M0 C0 H0 Gh W { Dn with nx := F } (parGo P σ0 is b (σ.set i (some d2)) δ1) →
          (rd P Er Tb Gv b W).a σv0 H' fun vs H1 => (x :: vs).length = (((i, w) :: is).map (·.1)).length ∧ F (setAll σv (((i, w) :: is).map (·.1)) (x :: vs)) H1 := by
        intro d2 N' p2 hm hsub r2 ow2 inj2 q2
        have h := par_ok sn g0 is b N' C' (σ.set i (some d2)) (σv.set i (some x)) H' δ1 p2 (s0.step p.cellH l' hm) ((s.step p.cellH l' hm).set i r2) (l.trans l') (fun a z => hsub a (m0 a z)) (fun a z => by
          rcases ow2 a z with z | ⟨z1, z2, z3⟩
          · obtain ⟨y1, y2⟩ := ow a z
            exact ⟨hsub a y1, y2⟩
          · exact ⟨z1, z2.back ((g0.le.trans l).ext) (fun y => by
              have : a ∈ C := (g0.le.trans l).mem y
              obtain ⟨xs, hx, co⟩ := p.cellH a this
              exact z2.not hx co.nt), z3⟩) inj2 (fun y hy => Rep.step p.cellH l' hm _ _ (gh y hy)) q2
        have e : (fun vs H1 => (x :: vs).length = (((i, w) :: is).map (·.1)).length ∧ F (setAll σv (((i, w) :: is).map (·.1)) (x :: vs)) H1) = fun vs H1 => vs.length = (is.map (·.1)).length ∧ F (setAll (σv.set i (some x)) (is.map (·.1)) vs) H1 := by
          funext vs H1
          simp only [List.length_cons, List.map_cons, Nat.add_right_cancel_iff]
          rfl
        rw [e]
        exact h
      cases w with
      | false =>
        simp only [R.then] at q'
        split at q'
        · exact q'.elim
        · rename_i hn
          have hn : isOwn d = false := by simpa using hn
          refine key d N p' inl_ (fun a z => z) r (fun a ⟨j, ts, h1, h2⟩ => ?_) (fun j k ts us a h1 h2 h3 h4 => ?_) q'
          · obtain ⟨h3, h4⟩ := set_own hn j ts h1
            rw [List.getElem?_set_ne (Ne.symm h4)] at h2
            exact .inl ⟨j, ts, h3, h2⟩
          · obtain ⟨h5, h6⟩ := set_own hn j ts h1
            obtain ⟨h7, h8⟩ := set_own hn k us h3
            rw [List.getElem?_set_ne (Ne.symm h6)] at h2
            rw [List.getElem?_set_ne (Ne.symm h8)] at h4
            exact inj j k ts us a h5 h2 h7 h4
      | true =>
        cases d <;> first | exact q'.elim | skip
        case lst ts =>
        simp only [R.then] at q'
        split at q'
        · rename_i hf
          obtain ⟨ad, vs, e1, nt, nc, ha, pf, rf⟩ := f hf ts rfl
          subst e1
          obtain ⟨b2, ws, e2, nm, _, _, _⟩ := rep_lst (r.rep rfl)
          cases e2
          have old : ∀ a, N a → a ≠ ad := fun a z e => by
            obtain ⟨xs, hx, mo⟩ := p.mh a z
            rw [e] at hx
            exact nt.not hx mo.nt
          refine key (.own ts) (fun x => N x ∨ x = ad) pf (fun a z => z.elim .inl fun z => .inr (by rw [z]; exact nt)) (fun a z => .inl z) ⟨ad, vs, rfl, nc, ha, rf⟩ (fun a ⟨j, us, h1, h2⟩ => ?_) (fun j k us zs a h1 h2 h3 h4 => ?_) q'
          · by_cases hj : i = j
            · subst hj
              have hl : i < σv.length := by
                have := (List.getElem?_eq_some_iff.mp h2).1
                rwa [List.length_set] at this
              rw [List.getElem?_set_self hl] at h2
              cases h2
              exact .inr ⟨.inr rfl, nt, fun z => nm (m0 ad (.inl z))⟩
            · rw [List.getElem?_set_ne hj] at h1 h2
              exact .inl ⟨j, us, h1, h2⟩
          · by_cases hj : i = j
            · by_cases hk : i = k
              · omega
              · subst hj
                have hl : i < σv.length := by
                  have := (List.getElem?_eq_some_iff.mp h2).1
                  rwa [List.length_set] at this
                rw [List.getElem?_set_self hl] at h2
                cases h2
                rw [List.getElem?_set_ne hk] at h3 h4
                exact absurd rfl (old ad (ow ad ⟨k, zs, h3, h4⟩).1)
            · rw [List.getElem?_set_ne hj] at h1 h2
              by_cases hk : i = k
              · subst hk
                have hl : i < σv.length := by
                  have := (List.getElem?_eq_some_iff.mp h4).1
                  rwa [List.length_set] at this
                rw [List.getElem?_set_self hl] at h4
                cases h4
                exact absurd rfl (old ad (ow ad ⟨j, us, h1, h2⟩).1)
              · rw [List.getElem?_set_ne hk] at h3 h4
                exact inj j k us zs a h1 h2 h3 h4
        · exact q'.elim
theorem sndS_par (sn : ∀ e, Snd Er Tb Gv e) {n : Nat} {is : List (Nat × Bool)} {a : E} : SndS (Er := Er) (Tb := Tb) (Gv := Gv) n (.par is a) := fun M0 C0 H0 Gh C σ σv H δ W Dn g q => by
  have q' : OPost Er Tb M0 C0 H0 Gh W Dn (if decide ((is.map (·.1)).Nodup) then parGo P σ is a σ δ else .bad) := q
  split at q'
  · exact par_ok sn g is a _ C σ σv H δ g.pre g.sl g.sl (Le.refl C H) (fun a z => z) (fun a z => ⟨.inr z, g.own a z⟩) g.inj g.gh q'
  · exact q'.elim
theorem sndS_asgT (sn : ∀ e, Snd Er Tb Gv e) {n : Nat} {is : List (Nat × Bool)} {a : E} : SndS (Er := Er) (Tb := Tb) (Gv := Gv) n (.asgT is a) := fun M0 C0 H0 Gh C σ σv H δ W Dn g q => by
  have q' : OPost Er Tb M0 C0 H0 Gh W Dn (if decide ((is.map (·.1)).Nodup) && decide (is.length ≤ 1000) then parGo P σ is a σ δ else .bad) := q
  split at q'
  · rename_i hd
    rw [Bool.and_eq_true] at hd
    have hl : is.length ≤ 1000 := of_decide_eq_true hd.2
    have q2 : OPost Er Tb M0 C0 H0 Gh W { Dn with nx := fun σ' H1 => ∀ t vs, H1 t = none → Dn.nx σ' (upd H1 t (.tup vs)) } (parGo P σ is a σ δ) := by
      cases ho : parGo P σ is a σ δ with
      | nx σ' δ' =>
        rw [ho] at q'
        intro C' σv' H' g' t vs ht
        exact q' C' σv' _ (g'.step (le_of_all (upd_all ht)) (g'.pre.all (upd_all ht)))
      | rt d δ' => rw [ho] at q'; exact q'
      | bk σ' δ' => rw [ho] at q'; exact q'
      | ct σ' δ' => rw [ho] at q'; exact q'
      | ex c p σ' δ' => rw [ho] at q'; exact q'
      | bad => rw [ho] at q'; exact q'
    refine ⟨_, par_ok sn g is a _ C σ σv H δ g.pre g.sl g.sl (Le.refl C H) (fun a z => z) (fun a z => ⟨.inr z, g.own a z⟩) g.inj g.gh q2, fun vs H1 hv => ?_⟩
    obtain ⟨h1, h2⟩ := hv
    rw [List.length_map] at h1
    refine ⟨by rw [h1, ← line_eq]; unfold line; omega, fun t ht => .inl ⟨t, vs, rfl, .inl (.inl upd_same), by rw [List.length_map]; exact h1, setAll_names _ _ _ _ _ (by rw [List.length_map]; exact h1) (h2 t vs ht)⟩⟩
  · exact q'.elim
theorem sndS_skip {n : Nat} : SndS (Er := Er) (Tb := Tb) (Gv := Gv) n .skip := fun M0 C0 H0 Gh C σ σv H δ W Dn g q => q C σv H g
theorem sndS_pass {n : Nat} : SndS (Er := Er) (Tb := Tb) (Gv := Gv) n .pass := fun M0 C0 H0 Gh C σ σv H δ W Dn g q => q C σv H g
theorem sndS_seq {n : Nat} {a b : S} (ha : SndS (Er := Er) (Tb := Tb) (Gv := Gv) n a) (hb : SndS (Er := Er) (Tb := Tb) (Gv := Gv) n b) : SndS (Er := Er) (Tb := Tb) (Gv := Gv) n (.seq a b) := fun M0 C0 H0 Gh C σ σv H δ W Dn g q => by
  refine ha M0 C0 H0 Gh C σ σv H δ W { Dn with nx := rdS P Er Tb Gv W b Dn } g ?_
  have q' : OPost Er Tb M0 C0 H0 Gh W Dn ((evS P n a σ δ).next fun σ δ => evS P n b σ δ) := q
  cases e : evS P n a σ δ with
  | nx σ' δ' =>
    rw [e] at q'
    exact fun C' σv' H' g' => hb M0 C0 H0 Gh C' σ' σv' H' δ' W Dn g' q'
  | rt d δ' => rw [e] at q'; exact q'
  | bk σ' δ' => rw [e] at q'; exact q'
  | ct σ' δ' => rw [e] at q'; exact q'
  | ex c p σ' δ' => rw [e] at q'; exact q'
  | bad => rw [e] at q'; exact q'
theorem sndS_expr (sn : ∀ e, Snd Er Tb Gv e) {n : Nat} {e : E} : SndS (Er := Er) (Tb := Tb) (Gv := Gv) n (.expr e) := fun M0 C0 H0 Gh C σ σv H δ W Dn g q =>
  (sn e).v W C _ σ δ σv H _ g.pre g.sl (OPost.then g q fun a δ' C' H' l g' q' x r _ => q' C' σv H' g')
theorem sndS_asg (sn : ∀ e, Snd Er Tb Gv e) {n : Nat} {t : G} {e : E} : SndS (Er := Er) (Tb := Tb) (Gv := Gv) n (.asg t e) := fun M0 C0 H0 Gh C σ σv H δ W Dn g q => by
  refine (sn e).v W C _ σ δ σv H _ g.pre g.sl (OPost.then g q fun a δ' C' H' l g' q' x r _ => ?_)
  cases et : setG t a σ with
  | none => rw [et] at q'; exact q'.elim
  | some σ' =>
    rw [et] at q'
    exact g'.target et r fun σv' g2 => q' C' σv' H' g2
theorem sndS_asgO (sn : ∀ e, Snd Er Tb Gv e) {n : Nat} {i : Nat} {e : E} : SndS (Er := Er) (Tb := Tb) (Gv := Gv) n (.asgO i e) := fun M0 C0 H0 Gh C σ σv H δ W Dn g q => by
  refine (sn e).v W C _ σ δ σv H _ g.pre g.sl (OPost.then g q fun a δ' C' H' l g' q' x r f => ?_)
  cases a <;> first | exact q'.elim | skip
  case lst ts =>
  simp only at q'
  split at q'
  · rename_i hf
    exact q' C' _ H' (g.take l (r.rep rfl) (f hf))
  · exact q'.elim
theorem sndS_ite (sn : ∀ e, Snd Er Tb Gv e) {n : Nat} {c : E} {a b : S} (ha : SndS (Er := Er) (Tb := Tb) (Gv := Gv) n a) (hb : SndS (Er := Er) (Tb := Tb) (Gv := Gv) n b) : SndS (Er := Er) (Tb := Tb) (Gv := Gv) n (.ite c a b) := fun M0 C0 H0 Gh C σ σv H δ W Dn g q => by
  refine (sn c).t W C _ σ δ σv H _ g.pre g.sl (OPost.then g q fun k δ' C' H' l g' q' => ?_)
  cases k with
  | true => exact ha M0 C0 H0 Gh C' σ σv H' δ' W Dn g' q'
  | false => exact hb M0 C0 H0 Gh C' σ σv H' δ' W Dn g' q'
theorem sndS_ret (sn : ∀ e, Snd Er Tb Gv e) {n : Nat} {e : E} : SndS (Er := Er) (Tb := Tb) (Gv := Gv) n (.ret e) := fun M0 C0 H0 Gh C σ σv H δ W Dn g q => by
  cases hv : isVar e with
  | true =>
    cases e <;> first | cases hv | skip
    case refl i =>
    have q' : OPost Er Tb M0 C0 H0 Gh W Dn (R.then ((evA' P (.var i)).v σ δ) σ fun d δ => if isOwn d then (if isVar (.var i) then .rt (demote d) δ else .bad) else .rt d δ) := q
    cases e1 : (evA' P (.var i)).v σ δ with
    | bad => rw [e1] at q'; exact q'.elim
    | ex c p d =>
      exfalso
      have : (match σ[i]? with | some (some d) => R.ok d δ | _ => R.bad) = R.ex c p d := e1
      split at this <;> cases this
    | ok d δ' =>
      have : (match σ[i]? with | some (some d) => R.ok d δ | _ => R.bad) = R.ok d δ' := e1
      split at this
      · rename_i d' ed
        cases this
        rw [e1] at q'
        obtain ⟨v, h1, h2⟩ := g.sl.at_ i d ed
        refine ⟨v, h1, ?_⟩
        have p0 : Pre K Tb C M0 H δ := g.pre.sub MM.sub0
        cases ho : isOwn d with
        | false =>
          have q2 : OPost Er Tb M0 C0 H0 Gh W Dn (if isOwn d then (if isVar (.var i) then .rt (demote d) δ else .bad) else .rt d δ) := q'
          rw [ho] at q2
          exact q2.2 C H v g.le p0 (Rep.sub MM.sub0 _ _ (h2.rep ho))
        | true =>
          have q2 : OPost Er Tb M0 C0 H0 Gh W Dn (if isOwn d then (if isVar (.var i) then .rt (demote d) δ else .bad) else .rt d δ) := q'
          rw [ho] at q2
          cases d <;> first | cases ho | skip
          case refl ts =>
          obtain ⟨a, vs, ea, nc, ha, ra⟩ := h2
          refine q2.2 C H v g.le p0 ?_
          show Rep K _ _ _ (.lst ts) v
          unfold Rep
          exact ⟨a, vs, ea, (g.own a ⟨i, ts, ed, by rw [h1, ea]⟩).2, nc, ha, RepL.sub MM.sub0 _ _ ra⟩
      · cases this
  | false =>
    refine (sn e).v W C _ σ δ σv H _ g.pre g.sl (OPost.then g q fun d δ' C' H' l g' q' x r _ => ?_)
    cases ho : isOwn d with
    | true => rw [ho, hv] at q'; exact q'.elim
    | false =>
      rw [ho] at q'
      exact q'.2 C' H' x g'.le (g'.pre.sub MM.sub0) (Rep.sub MM.sub0 _ _ (r.rep ho))
theorem sndS_retN {n : Nat} : SndS (Er := Er) (Tb := Tb) (Gv := Gv) n .retN := fun M0 C0 H0 Gh C σ σv H δ W Dn g q => q.2 C H .non g.le (g.pre.sub MM.sub0) mk_non
theorem sndS_brk {n : Nat} : SndS (Er := Er) (Tb := Tb) (Gv := Gv) n .brk := fun M0 C0 H0 Gh C σ σv H δ W Dn g q => q C σv H g
theorem sndS_cont {n : Nat} : SndS (Er := Er) (Tb := Tb) (Gv := Gv) n .cont := fun M0 C0 H0 Gh C σ σv H δ W Dn g q => q C σv H g
theorem sndS_rais {n : Nat} {c : Str} : SndS (Er := Er) (Tb := Tb) (Gv := Gv) n (.rais c) := fun M0 C0 H0 Gh C σ σv H δ W Dn g q => by
  have q' : OPost Er Tb M0 C0 H0 Gh W Dn (if P.X.contains c then .ex c [] σ δ else .bad) := q
  split at q'
  · rename_i hc
    exact q' C σv H (Er.xv c) none g ⟨by simpa using hc, rfl, rfl⟩
  · exact q'.elim
theorem sndS_raisP (sn : ∀ e, Snd Er Tb Gv e) {n : Nat} {c : Str} {e : E} : SndS (Er := Er) (Tb := Tb) (Gv := Gv) n (.raisP c e) := fun M0 C0 H0 Gh C σ σv H δ W Dn g q => by
  refine (sn e).v W C _ σ δ σv H _ g.pre g.sl (OPost.then g q fun d δ' C' H' l g' q' x r _ => fun dd hd => ?_)
  split at q'
  · exact q'.elim
  · rename_i hn
    rw [Bool.or_eq_true, not_or, Bool.not_eq_true, Bool.not_eq_true, Bool.not_eq_false'] at hn
    have u := upd_all (o := .xd [(Er.xf c, x)]) hd
    have g2 := g'.step (le_of_all u) (g'.pre.all u)
    exact q' C' σv _ (Er.xv c) (some dd) g2 ⟨by simpa using hn.2, rfl, dd, x, rfl, upd_same, Rep.step g'.pre.cellH (le_of_all u) inl_ _ _ (r.rep hn.1)⟩
theorem sndS_frz {n : Nat} {i : Nat} {s : S} (hs : SndS (Er := Er) (Tb := Tb) (Gv := Gv) n s) : SndS (Er := Er) (Tb := Tb) (Gv := Gv) n (.frz i s) := fun M0 C0 H0 Gh C σ σv H δ W Dn g q => by
  have q' : OPost Er Tb M0 C0 H0 Gh W Dn (match ownAt σ i with | some ts => evS P n s (σ.set i (some (.lst ts))) δ | none => .bad) := q
  cases e : ownAt σ i with
  | none => rw [e] at q'; exact q'.elim
  | some ts =>
    rw [e] at q'
    unfold ownAt at e
    split at e
    · rename_i us eu
      cases e
      exact hs M0 C0 H0 Gh C _ σv H δ W Dn (g.freeze eu) q'
    · cases e
theorem sndS_whl (sn : ∀ e, Snd Er Tb Gv e) {n : Nat} {c : E} {b : S} (hb : SndS (Er := Er) (Tb := Tb) (Gv := Gv) n b) : SndS (Er := Er) (Tb := Tb) (Gv := Gv) n (.whl c b) := fun M0 C0 H0 Gh C σ σv H δ W Dn g q => by
  refine ⟨fun m σv H => ∃ C σ δ, Good K Tb M0 C0 H0 Gh C σ σv H δ ∧ OPost Er Tb M0 C0 H0 Gh W Dn (whlGo (evA' P c).t (evS P n b) m σ δ), ⟨n, C, σ, δ, g, q⟩, ?_⟩
  rintro m σv H ⟨C, σ, δ, g, q⟩
  cases m with
  | zero => exact q.elim
  | succ m =>
    have q' : OPost Er Tb M0 C0 H0 Gh W Dn (match (evA' P c).t σ δ with
      | .ok k δ => if k then (match evS P n b σ δ with
        | .nx σ δ => whlGo (evA' P c).t (evS P n b) m σ δ
        | .ct σ δ => whlGo (evA' P c).t (evS P n b) m σ δ
        | .bk σ δ => .nx σ δ
        | o => o) else .nx σ δ
      | .ex c p δ => .ex c p σ δ
      | .bad => .bad) := q
    refine (sn c).t W C _ σ δ σv H _ g.pre g.sl ?_
    cases ec : (evA' P c).t σ δ with
    | bad => rw [ec] at q'; exact q'
    | ex x p d => rw [ec] at q'; exact fun C' H' cls dd l p' x => q' C' σv H' cls dd (g.step l p') x
    | ok k δ1 =>
      rw [ec] at q'
      intro C' H' l p'
      have g' := g.step l p'
      cases k with
      | false => exact q' C' σv H' g'
      | true =>
        simp only [if_true] at q' ⊢
        refine ⟨fun σv H => ∃ C σ δ, Good K Tb M0 C0 H0 Gh C σ σv H δ ∧ OPost Er Tb M0 C0 H0 Gh W Dn (whlGo (evA' P c).t (evS P n b) m σ δ), fun σv' H' h => ⟨m, Nat.lt_succ_self m, h⟩, ?_⟩
        refine hb M0 C0 H0 Gh C' σ σv H' δ1 W _ g' ?_
        cases eb : evS P n b σ δ1 with
        | nx σ2 δ2 => rw [eb] at q'; exact fun C2 σv2 H2 g2 => ⟨C2, σ2, δ2, g2, q'⟩
        | ct σ2 δ2 => rw [eb] at q'; exact fun C2 σv2 H2 g2 => ⟨C2, σ2, δ2, g2, q'⟩
        | bk σ2 δ2 => rw [eb] at q'; exact q'
        | rt d δ2 => rw [eb] at q'; exact q'
        | ex x p σ2 δ2 => rw [eb] at q'; exact q'
        | bad => rw [eb] at q'; exact q'
theorem sndS_for (sn : ∀ e, Snd Er Tb Gv e) {n : Nat} {t : G} {k : IK} {it : E} {b : S} (hb : SndS (Er := Er) (Tb := Tb) (Gv := Gv) n b) : SndS (Er := Er) (Tb := Tb) (Gv := Gv) n (.for t k it b) := fun M0 C0 H0 Gh C σ σv H δ W Dn g q => by
  refine (sn it).a W C _ σ δ σv H _ g.pre g.sl (OPost.then g q fun ds δ' C1 H1 l g1 q1 vs r => ?_)
  cases ei : itemsD δ' k ds with
  | none => rw [ei] at q1; exact q1.elim
  | some xs =>
    rw [ei] at q1
    obtain ⟨Gs, J, gh, w, fin⟩ := items_ok (Tb := Tb) ei r
    refine fin _ ?_
    refine ⟨fun i m σv H => i ≤ xs.length ∧ m = xs.length - i ∧ ∃ C σ δ, Good K Tb M0 C0 H0 (Gs ++ Gh) C σ σv H δ ∧ OPost Er Tb M0 C0 H0 Gh W Dn (forGo t (evS P n b) (xs.drop i) σ δ),
      ⟨xs.length, Nat.zero_le _, by simp, C1, σ, δ', g1.more gh, by simpa using q1⟩, ?_⟩
    rintro i m σv H ⟨hi, rfl, C, σ, δ, g, q⟩
    have gl : ∀ {C σ σv H δ}, Good K Tb M0 C0 H0 (Gs ++ Gh) C σ σv H δ → Good K Tb M0 C0 H0 Gh C σ σv H δ := fun g => g.less fun x hx => List.mem_append_right _ hx
    have wk := w C _ H δ g.pre fun x hx => g.gh x (List.mem_append_left _ hx)
    by_cases hlt : i < xs.length
    · refine .inr ⟨wk.1 i hlt, fun σv' H' => i + 1 ≤ xs.length ∧ ∃ C σ δ, Good K Tb M0 C0 H0 (Gs ++ Gh) C σ σv' H' δ ∧ OPost Er Tb M0 C0 H0 Gh W Dn (forGo t (evS P n b) (xs.drop (i + 1)) σ δ),
        fun σ' H' h => ⟨xs.length - (i + 1), by omega, h.1, rfl, h.2⟩, fun x H' y => ?_⟩
      obtain ⟨d, ed, l2, p2, rd_⟩ := wk.2.2 i x H' hlt y
      have edr : xs.drop i = d :: xs.drop (i + 1) := by
        obtain ⟨h1, h2⟩ := List.getElem?_eq_some_iff.mp ed
        rw [← h2]; exact List.drop_eq_getElem_cons hlt
      rw [edr] at q
      have g2 := g.step l2 p2
      have q' : OPost Er Tb M0 C0 H0 Gh W Dn (match setG t d σ with
        | none => .bad
        | some σ => match evS P n b σ δ with
          | .nx σ δ => forGo t (evS P n b) (xs.drop (i + 1)) σ δ
          | .ct σ δ => forGo t (evS P n b) (xs.drop (i + 1)) σ δ
          | .bk σ δ => .nx σ δ
          | o => o) := q
      cases et : setG t d σ with
      | none => rw [et] at q'; exact q'.elim
      | some σ2 =>
        rw [et] at q'
        simp only at q'
        refine g2.target et rd_.repS fun σv2 g3 => ?_
        refine hb M0 C0 H0 (Gs ++ Gh) C σ2 σv2 H' δ W _ g3 ?_
        cases eb : evS P n b σ2 δ with
        | nx σ3 δ3 => rw [eb] at q'; exact fun C3 σv3 H3 g4 => ⟨hlt, C3, σ3, δ3, g4, q'⟩
        | ct σ3 δ3 => rw [eb] at q'; exact fun C3 σv3 H3 g4 => ⟨hlt, C3, σ3, δ3, g4, q'⟩
        | bk σ3 δ3 => rw [eb] at q'; exact fun C3 σv3 H3 g4 => q' C3 σv3 H3 (gl g4)
        | rt d δ3 => rw [eb] at q'; exact q'
        | ex x p σ3 δ3 => rw [eb] at q'; exact fun C3 σv3 H3 cls dd g4 x => q' C3 σv3 H3 cls dd (gl g4) x
        | bad => rw [eb] at q'; exact q'
    · have e : i = xs.length := by omega
      subst e
      rw [List.drop_length] at q
      exact .inl ⟨wk.2.1, q C σv H (gl g)⟩
theorem sndS_aug (sn : ∀ e, Snd Er Tb Gv e) {n : Nat} {i : Nat} {o : Operator} {e : E} : SndS (Er := Er) (Tb := Tb) (Gv := Gv) n (.aug i o e) := fun M0 C0 H0 Gh C σ σv H δ W Dn g q => by
  have q' : OPost Er Tb M0 C0 H0 Gh W Dn (R.then (match σ[i]? with | some (some d) => R.ok d δ | _ => R.bad) σ fun x δ => R.then ((evA' P e).v σ δ) σ fun y δ => match augD o x y with
    | some z => .nx (σ.set i (some z)) δ
    | none => .bad) := q
  cases es : σ[i]? with
  | none => rw [es] at q'; exact q'.elim
  | some od =>
    cases od with
    | none => rw [es] at q'; exact q'.elim
    | some d =>
      rw [es] at q'
      obtain ⟨v, h1, h2⟩ := g.sl.at_ i d es
      have q2 : OPost Er Tb M0 C0 H0 Gh W Dn (R.then ((evA' P e).v σ δ) σ fun y δ => match augD o d y with
        | some z => .nx (σ.set i (some z)) δ
        | none => .bad) := q'
      refine ⟨v, h1, (sn e).v W C _ σ δ σv H _ g.pre g.sl (OPost.then g q2 fun y δ' C' H' l g' q3 x r _ => ?_)⟩
      cases ea : augD o d y with
      | none => rw [ea] at q3; exact q3.elim
      | some z =>
        rw [ea] at q3
        refine aug_ok ea (h2.step g.pre.cellH l inl_) r fun w rw_ => q3 C' _ H' (g'.stored (g'.sl.set i rw_.repS) fun j ts h => ?_)
        obtain ⟨h3, h4⟩ := set_own (own_no rw_) j ts h
        exact ⟨h3, List.getElem?_set_ne (Ne.symm h4)⟩
theorem ownAt_of {i : Nat} {ts : List D} (e : ownAt σ i = some ts) : σ[i]? = some (some (.own ts)) := by
  unfold ownAt at e
  split at e
  · rename_i us eu
    cases e
    exact eu
  · cases e
theorem Good.lst (g : Good K Tb M0 C0 H0 Gh C σ σv H δ) {i : Nat} {ts : List D} (e : σ[i]? = some (some (.own ts))) : ∃ a vs, σv[i]? = some (some (.ref a)) ∧ H a = some (.lst vs) ∧ RepL K C (MM M0 σ σv) H ts vs := by
  obtain ⟨v, h1, ⟨a, vs, ea, nc, ha, ra⟩⟩ := g.sl.at_ i _ e
  subst ea
  exact ⟨a, vs, h1, ha, ra⟩
theorem sndS_app (sn : ∀ e, Snd Er Tb Gv e) {n : Nat} {i : Nat} {e : E} : SndS (Er := Er) (Tb := Tb) (Gv := Gv) n (.app i e) := fun M0 C0 H0 Gh C σ σv H δ W Dn g q => by
  have q' : OPost Er Tb M0 C0 H0 Gh W Dn (match ownAt σ i with
    | some ts => R.then ((evA' P e).v σ δ) σ fun d δ => if isOwn d || decide (1000000 < ts.length) then .bad else .nx (σ.set i (some (.own (ts ++ [d])))) δ
    | none => .bad) := q
  cases eo : ownAt σ i with
  | none => rw [eo] at q'; exact q'.elim
  | some ts =>
    rw [eo] at q'
    have es := ownAt_of eo
    obtain ⟨a, vs, h1, h2, h3⟩ := g.lst es
    refine ⟨.ref a, h1, .inl ⟨rfl, vs, SqL.of h2⟩, (sn e).v W C _ σ δ σv H _ g.pre g.sl (OPost.then g q' fun d δ' C' H' l g' q2 x r _ => ?_)⟩
    split at q2
    · exact q2.elim
    · rename_i hn
      rw [Bool.or_eq_true, not_or, Bool.not_eq_true, decide_eq_true_eq] at hn
      obtain ⟨a', vs', h1', h2', h3'⟩ := g'.lst es
      rw [h1] at h1'; cases h1'
      refine ⟨a, vs', x, rfl, rfl, h2', by rw [h3'.length, sizeLine_eq]; omega, ?_⟩
      exact q2 C' σv _ (g'.write es h1 (h3'.append (.one (r.rep hn.1))))
theorem sndS_ext (sn : ∀ e, Snd Er Tb Gv e) {n : Nat} {i : Nat} {e : E} : SndS (Er := Er) (Tb := Tb) (Gv := Gv) n (.ext i e) := fun M0 C0 H0 Gh C σ σv H δ W Dn g q => by
  have q' : OPost Er Tb M0 C0 H0 Gh W Dn (match ownAt σ i with
    | some ts => R.then ((evA' P e).v σ δ) σ fun d δ => match d with
      | .lst us => if decide (1000000 < ts.length + us.length) then .bad else .nx (σ.set i (some (.own (ts ++ us)))) δ
      | _ => .bad
    | none => .bad) := q
  cases eo : ownAt σ i with
  | none => rw [eo] at q'; exact q'.elim
  | some ts =>
    rw [eo] at q'
    have es := ownAt_of eo
    obtain ⟨a, vs, h1, h2, h3⟩ := g.lst es
    refine ⟨.ref a, h1, .inl ⟨rfl, vs, SqL.of h2⟩, (sn e).v W C _ σ δ σv H _ g.pre g.sl (OPost.then g q' fun d δ' C' H' l g' q2 x r _ => ?_)⟩
    cases d <;> first | exact q2.elim | skip
    case lst us =>
    simp only at q2
    split at q2
    · exact q2.elim
    · rename_i hn
      rw [decide_eq_true_eq] at hn
      obtain ⟨a', vs', h1', h2', h3'⟩ := g'.lst es
      rw [h1] at h1'; cases h1'
      obtain ⟨b, ws, eb, nm, nc, hb, rb⟩ := rep_lst (r.rep rfl)
      subst eb
      refine ⟨a, b, vs', ws, rfl, rfl, h2', hb, by rw [h3'.length, rb.length, sizeLine_eq]; omega, ?_⟩
      exact q2 C' σv _ (g'.write es h1 (h3'.append rb))
theorem sndS_pop {n : Nat} {i : Nat} : SndS (Er := Er) (Tb := Tb) (Gv := Gv) n (.pop i) := fun M0 C0 H0 Gh C σ σv H δ W Dn g q => by
  have q' : OPost Er Tb M0 C0 H0 Gh W Dn (match ownAt σ i with
    | some ts => if ts.isEmpty then .bad else .nx (σ.set i (some (.own ts.dropLast))) δ
    | none => .bad) := q
  cases eo : ownAt σ i with
  | none => rw [eo] at q'; exact q'.elim
  | some ts =>
    rw [eo] at q'
    have es := ownAt_of eo
    obtain ⟨a, vs, h1, h2, h3⟩ := g.lst es
    simp only at q'
    split at q'
    · exact q'.elim
    · rename_i hn
      have hl : 0 < vs.length := by
        rw [h3.length]
        cases ts with
        | nil => exact absurd rfl hn
        | cons t r => simp
      refine ⟨.ref a, h1, .inl ⟨rfl, vs, SqL.of h2⟩, a, vs, vs[vs.length - 1], rfl, rfl, h2, List.getElem?_eq_getElem (by omega), ?_⟩
      exact q' C σv _ (g.write es h1 h3.dropLast)
theorem intOf_rep {x : D} {z : Int} {v : V} {M : Addr → Prop} (e : intOf x = some z) (r : RepS K C M H x v) : v = .int z := by
  cases x <;> simp only [intOf] at e <;> cases e
  exact rep_int (r.rep rfl)
theorem sndS_setx (sn : ∀ e, Snd Er Tb Gv e) {n : Nat} {o ix e : E} : SndS (Er := Er) (Tb := Tb) (Gv := Gv) n (.setx o ix e) := fun M0 C0 H0 Gh C σ σv H δ W Dn g q => by
  cases o <;> first | exact q.elim | skip
  case var i =>
  have q0 : OPost Er Tb M0 C0 H0 Gh W Dn (match σ[i]? with
      | some (some (.own ts)) => R.then ((evA' P e).v σ δ) σ fun d δ => R.then ((evA' P ix).v σ δ) σ fun x δ => match intOf x with
        | some z => (match ixN ts.length z with
          | some j => if isOwn d then .bad else .nx (σ.set i (some (.own (ts.set j d)))) δ
          | none => .bad)
        | none => .bad
      | some (some (.cell k)) => R.then ((evA' P e).v σ δ) σ fun d δ => R.then ((evA' P ix).v σ δ) σ fun x δ => match intOf x, cellL δ k with
        | some z, some ts => (match ixN ts.length z with
          | some j => if isOwn d || (insOf (ts.set j d)).isSome then .bad else .nx σ (δ.set k (ts.set j d))
          | none => .bad)
        | _, _ => .bad
      | _ => .bad) := q
  split at q0
  · rename_i ts es
    obtain ⟨a, vs, h1, h2, h3⟩ := g.lst es
    refine (sn e).v W C _ σ δ σv H _ g.pre g.sl (OPost.then g q0 fun d δ1 C1 H1 l1 g1 q1 x r _ => ?_)
    refine ⟨.ref a, h1, ?_⟩
    refine (sn ix).v W C1 _ σ δ1 σv H1 _ g1.pre g1.sl (OPost.then g1 q1 fun y δ2 C2 H2 l2 g2 q2 u ru _ => ?_)
    split at q2
    · rename_i z ez
      split at q2
      · rename_i j ej
        split at q2
        · exact q2.elim
        · rename_i hd
          obtain ⟨a', vs', h1', h2', h3'⟩ := g2.lst es
          rw [h1] at h1'; cases h1'
          refine ⟨a, vs', z, j, rfl, intOf_rep ez ru, h2', by rw [h3'.length]; exact ej, ?_⟩
          exact q2 C2 σv _ (g2.write es h1 (h3'.set j ((r.step g1.pre.cellH l2 inl_).rep (by simpa using hd))))
      · exact q2.elim
    · exact q2.elim
  · rename_i k es
    obtain ⟨v, h1, hr⟩ := g.sl.at_ i _ es
    refine (sn e).v W C _ σ δ σv H _ g.pre g.sl (OPost.then g q0 fun d δ1 C1 H1 l1 g1 q1 x r _ => ?_)
    refine ⟨v, h1, ?_⟩
    refine (sn ix).v W C1 _ σ δ1 σv H1 _ g1.pre g1.sl (OPost.then g1 q1 fun y δ2 C2 H2 l2 g2 q2 u ru _ => ?_)
    split at q2
    · rename_i z ts ez et
      split at q2
      · rename_i j ej
        split at q2
        · exact q2.elim
        · rename_i hd
          obtain ⟨v', h1', hr'⟩ := g2.sl.at_ i _ es
          rw [h1] at h1'; cases h1'
          obtain ⟨a, ea, ec⟩ := rep_cell (K := K) (M := MM M0 σ σv) (H := H2) (hr'.rep rfl)
          obtain ⟨vs', e2, e3⟩ := g2.pre.cellL et ec
          rw [Bool.or_eq_true, not_or, Bool.not_eq_true, Bool.not_eq_true] at hd
          have hni : insOf (ts.set j d) = none := by
            cases z : insOf (ts.set j d) with
            | none => rfl
            | some w => rw [z] at hd; exact absurd hd.2 (fun y => by cases y)
          refine ⟨a, vs', z, j, ea, intOf_rep ez ru, e2, by rw [e3.length]; exact ej, ?_⟩
          exact q2 C2 σv _ (g2.writeCell ec hni (e3.set j ((r.step g1.pre.cellH l2 inl_).rep hd.1)))
      · exact q2.elim
    · exact q2.elim
  · exact q0.elim
theorem sndS_augx (sn : ∀ e, Snd Er Tb Gv e) {n : Nat} {i : Nat} {ix e : E} {o : Operator} : SndS (Er := Er) (Tb := Tb) (Gv := Gv) n (.augx i ix o e) := fun M0 C0 H0 Gh C σ σv H δ W Dn g q => by
  have q0 : OPost Er Tb M0 C0 H0 Gh W Dn (match σ[i]? with
    | some (some (.cell k)) => R.then ((evA' P ix).v σ δ) σ fun x δ => (match intOf x, cellL δ k with
      | some z, some ts => if z < 0 then .bad else (match atI ts z with
        | some d0 => R.then ((evA' P e).v σ δ) σ fun y δ => (match augD o d0 y, cellL δ k with
          | some d, some us => (match ixN us.length z with
            | some j => if isOwn d || (insOf (us.set j d)).isSome then .bad else .nx σ (δ.set k (us.set j d))
            | none => .bad)
          | _, _ => .bad)
        | none => .bad)
      | _, _ => .bad)
    | _ => .bad) := q
  split at q0
  · rename_i k es
    obtain ⟨v, h1, hr⟩ := g.sl.at_ i _ es
    refine ⟨v, h1, ?_⟩
    refine (sn ix).v W C _ σ δ σv H _ g.pre g.sl (OPost.then g q0 fun x δ1 C1 H1 l1 g1 q1 u ru _ => ?_)
    split at q1
    · rename_i z ts ez et
      split at q1
      · exact q1.elim
      · rename_i hz
        split at q1
        · rename_i d0 e0
          obtain ⟨v1, h2, hr1⟩ := g1.sl.at_ i _ es
          rw [h1] at h2; cases h2
          obtain ⟨a, ea, ec⟩ := rep_cell (K := K) (M := MM M0 σ σv) (H := H1) (hr1.rep rfl)
          obtain ⟨vs, e2, e3⟩ := g1.pre.cellL et ec
          obtain ⟨w0, e4, e5⟩ := atI_rep e3 e0
          refine ⟨a, vs, z, w0, ea, intOf_rep ez ru, SqL.of e2, e4, ?_⟩
          refine (sn e).v W C1 _ σ δ1 σv H1 _ g1.pre g1.sl (OPost.then g1 q1 fun y δ2 C2 H2 l2 g2 q2 uy ry _ => ?_)
          split at q2
          · rename_i d us ed eu
            split at q2
            · rename_i j ej
              split at q2
              · exact q2.elim
              · rename_i hd
                rw [Bool.or_eq_true, not_or, Bool.not_eq_true, Bool.not_eq_true] at hd
                refine aug_ok ed (e5.repS.step g1.pre.cellH l2 inl_) ry fun wz rz => ?_
                obtain ⟨v2, h3, hr2⟩ := g2.sl.at_ i _ es
                rw [h1] at h3; cases h3
                obtain ⟨a2, ea2, ec2⟩ := rep_cell (K := K) (M := MM M0 σ σv) (H := H2) (hr2.rep rfl)
                rw [ea] at ea2; cases ea2
                obtain ⟨vs2, e6, e7⟩ := g2.pre.cellL eu ec2
                have hni : insOf (us.set j d) = none := by
                  cases zz : insOf (us.set j d) with
                  | none => rfl
                  | some w => rw [zz] at hd; exact absurd hd.2 (fun y => by cases y)
                refine ⟨a, vs2, z, j, ea, intOf_rep ez ru, e6, by rw [e7.length]; exact ej, ?_⟩
                exact q2 C2 σv _ (g2.writeCell ec2 hni (e7.set j rz))
            · exact q2.elim
          · exact q2.elim
        · exact q1.elim
    · exact q1.elim
  · exact q0.elim
theorem tryO_ne {c c' : Str} {σ : Sig} {p : List D} {δ : Dl} (h : ¬ c' = c) : tryO c σ (.ex c' p δ) = .ex c' p σ δ := if_neg h
theorem tryO_eq {c : Str} {σ : Sig} {p : List D} {δ : Dl} : tryO c σ (.ex c p δ) = match p with
    | [d] => if isOwn d then .bad else .rt d δ
    | _ => .bad := if_pos rfl
theorem sndS_tryF (sn : ∀ e, Snd Er Tb Gv e) {n : Nat} {i : Nat} {e : E} {c : Str} : SndS (Er := Er) (Tb := Tb) (Gv := Gv) n (.tryF i e c) := fun M0 C0 H0 Gh C σ σv H δ W Dn g q => by
  have q0 : OPost Er Tb M0 C0 H0 Gh W Dn (if P.X.contains c && decide (i < σ.length) then tryO c σ ((evA' P e).v σ δ) else .bad) := q
  split at q0
  · rename_i hc
    rw [Bool.and_eq_true] at hc
    have hcX : c ∈ P.X := by simpa using hc.1
    have hil : i < σv.length := by rw [← g.sl.len]; exact of_decide_eq_true hc.2
    refine (sn e).v _ C _ σ δ σv H _ g.pre g.sl ?_
    cases ee : (evA' P e).v σ δ with
    | bad => rw [ee] at q0; exact q0.elim
    | ok d δ1 =>
      rw [ee] at q0
      exact fun C' H' l p x r _ => q0 C' σv H' (g.step l p)
    | ex c' p δ1 =>
      rw [ee] at q0
      intro C' H' cls d l pr x
      obtain ⟨x1, x2, x3⟩ := x
      have g' := g.step l pr
      refine ⟨decide (c' = c), by rw [x2]; exact Er.is c' x1 c hcX, fun hb a ha => ?_, fun hb => ?_⟩
      · have ec := of_decide_eq_true hb
        subst ec
        rw [tryO_eq] at q0
        obtain ⟨Cc, eC⟩ := Er.rf c' hcX
        split at q0
        · rename_i t
          split at q0
          · exact q0.elim
          · rename_i ho
            obtain ⟨dd, v, e1, e2, e3⟩ := x3
            refine ⟨_, List.getElem?_set_self hil, rfl, by rw [x2, eC]; rfl, dd, [(Er.xf c', v)], v, e1, e2, by rw [List.lookup_cons, beq_self_eq_true], ?_⟩
            exact q0.2 C' H' v g'.le (g'.pre.sub MM.sub0) (Rep.sub MM.sub0 _ _ e3)
        · exact q0.elim
      · have hne : ¬ c' = c := fun z => by rw [decide_eq_true z] at hb; cases hb
        rw [tryO_ne hne] at q0
        exact q0 C' σv H' cls d g' ⟨x1, x2, x3⟩
  · exact q0.elim
theorem sndS_setf (sn : ∀ e, Snd Er Tb Gv e) {n : Nat} {c : String} {i : Nat} {f : Str} {e : E} : SndS (Er := Er) (Tb := Tb) (Gv := Gv) n (.setf c i f e) := fun M0 C0 H0 Gh C σ σv H δ W Dn g q => by
  have q0 : OPost Er Tb M0 C0 H0 Gh W Dn (R.then ((evA' P e).v σ δ) σ fun d δ => match σ[i]? with
    | some (some x) => (match insD δ c x with
      | some (k, r) => if isOwn d || decide (1900 < r.length) then .bad else .nx σ (δ.set k (.ty c :: setF f d r))
      | none => .bad)
    | _ => .bad) := q
  refine (sn e).v W C _ σ δ σv H _ g.pre g.sl (OPost.then g q0 fun d δ1 C1 H1 l1 g1 q1 y ry _ => ?_)
  split at q1
  · rename_i x es
    split at q1
    · rename_i k r er
      split at q1
      · exact q1.elim
      · rename_i hd
        rw [Bool.or_eq_true, not_or, Bool.not_eq_true, decide_eq_true_eq] at hd
        obtain ⟨v, h1, hr⟩ := g1.sl.at_ i _ es
        have ex := (insD_of er).1
        subst ex
        obtain ⟨a, dx, fv, ea, ec, h3, h4⟩ := g1.pre.insD er (hr.rep rfl)
        have hl := h4.len
        exact ⟨v, h1, a, dx, fv, ea, h3, by omega, q1 C1 σv _ (g1.writeIns (insD_of er).2.2 ec (RepF.put (ry.rep hd.1) h4))⟩
    · exact q1.elim
  · exact q1.elim
theorem sndS_augf (sn : ∀ e, Snd Er Tb Gv e) {n : Nat} {c : String} {i : Nat} {f : Str} {o : Operator} {e : E} : SndS (Er := Er) (Tb := Tb) (Gv := Gv) n (.augf c i f o e) := fun M0 C0 H0 Gh C σ σv H δ W Dn g q => by
  have q0 : OPost Er Tb M0 C0 H0 Gh W Dn (match σ[i]? with
    | some (some x) => (match insD δ c x with
      | some (_, r) => (match getF r f with
        | some y => R.then ((evA' P e).v σ δ) σ fun d δ => match augD o y d, insD δ c x with
          | some z, some (k, r) => if isOwn z || decide (1900 < r.length) then .bad else .nx σ (δ.set k (.ty c :: setF f z r))
          | _, _ => .bad
        | none => .bad)
      | none => .bad)
    | _ => .bad) := q
  split at q0
  · rename_i x es
    split at q0
    · rename_i k0 r0 er0
      split at q0
      · rename_i y ey
        obtain ⟨v, h1, hr⟩ := g.sl.at_ i _ es
        have ex := (insD_of er0).1
        subst ex
        obtain ⟨a, dx, fv, ea, ec, h3, h4⟩ := g.pre.insD er0 (hr.rep rfl)
        obtain ⟨u, h5, h6⟩ := RepF.get h4 ey
        refine ⟨v, h1, a, dx, fv, u, ea, h3, h5, ?_⟩
        refine (sn e).v W C _ σ δ σv H _ g.pre g.sl (OPost.then g q0 fun d δ1 C1 H1 l1 g1 q1 w rw_ _ => ?_)
        split at q1
        · rename_i z k r ez er
          split at q1
          · exact q1.elim
          · rename_i hd
            rw [Bool.or_eq_true, not_or, Bool.not_eq_true, decide_eq_true_eq] at hd
            obtain ⟨v', h1', hr'⟩ := g1.sl.at_ i _ es
            rw [h1] at h1'
            cases h1'
            obtain ⟨a', dx', fv', ea', ec', h3', h4'⟩ := g1.pre.insD er (hr'.rep rfl)
            have hl := h4'.len
            refine aug_ok ez (h6.repS.step g.pre.cellH l1 inl_) rw_ fun w2 rw2 => ?_
            rw [ea] at ea'
            cases ea'
            exact ⟨dx', fv', h3', by omega, q1 C1 σv _ (g1.writeIns (insD_of er).2.2 ec' (RepF.put rw2 h4'))⟩
        · exact q1.elim
      · exact q0.elim
    · exact q0.elim
  · exact q0.elim
theorem Good.dic (g : Good K Tb M0 C0 H0 Gh C σ σv H δ) {x kd d : D} {c : Nat} {r : List D} {ks : List Int} {v u w : V} (e : dicD δ x = some (c, r)) (ek : keyI kd = some ks) (rx : RepS K C (MM M0 σ σv) H x v) (rk : RepS K C (MM M0 σ σv) H kd u) (hl : ¬ 1000000 < r.length) :
    ∃ a b xs, v = .ref a ∧ u = .ref b ∧ SqT K H b (ks.map V.int) ∧ H a = some (DM.dO a xs) ∧ DM.KS K H xs ∧ xs.length < sizeLine ∧
      (∀ d, dLook ks r = some d → ∃ p v, atKey xs ks = some p ∧ RelV v p.2 ∧ Rep K C (MM M0 σ σv) H d v) ∧ (dLook ks r = none → atKey xs ks = none) ∧
      ∀ z, Rep K C (MM M0 σ σv) H d w → RelV w z → Good K Tb M0 C0 H0 Gh C σ σv (upd H a (DM.dO a (storedH xs ks b z))) (δ.set c (.ty "dict" :: dPut ks d r)) := by
  have ey := (dicD_of e).1
  have ex := keyI_eq ek
  obtain ⟨b, eb, sb⟩ := key_rep ek (rk.rep (by rw [ex]; rfl))
  obtain ⟨a, vs, xs, ev, ec, h, r1, x1, nd⟩ := g.pre.dicD e (rx.rep (by rw [ey]; rfl))
  obtain ⟨l1, l2⟩ := x1.look ks r1
  refine ⟨a, b, xs, ev, eb, sb, h, x1.ks r1, by have := x1.len; rw [sizeLine_eq]; omega, l1, l2, fun z hd rz => ?_⟩
  obtain ⟨vs', p1, p2⟩ := x1.put r1 nd sb hd rz
  exact g.writeDic ec p1 p2 (nodup_put ks b z nd)
theorem sndS_dsetd (sn : ∀ e, Snd Er Tb Gv e) {n : Nat} {i : Nat} {k e : E} : SndS (Er := Er) (Tb := Tb) (Gv := Gv) n (.dsetd i k e) := fun M0 C0 H0 Gh C σ σv H δ W Dn g q => by
  have q0 : OPost Er Tb M0 C0 H0 Gh W Dn (match σ[i]? with
    | some (some x) => if (dicD δ x).isSome then R.then ((evA' P k).v σ δ) σ fun kd δ => R.then ((evA' P e).v σ δ) σ fun d δ => (match keyI kd, dicD δ x with
      | some ks, some (c, r) => if isOwn d || decide (1000000 < r.length) then .bad else (match dLook ks r with
        | some _ => .nx σ δ
        | none => .nx σ (δ.set c (.ty "dict" :: dPut ks d r)))
      | _, _ => .bad) else .bad
    | _ => .bad) := q
  split at q0
  · rename_i x es
    split at q0
    · rename_i hd
      obtain ⟨⟨k0, r0⟩, e0⟩ := Option.isSome_iff_exists.mp hd
      have ey := (dicD_of e0).1
      obtain ⟨v, h1, hr⟩ := g.sl.at_ i _ es
      obtain ⟨a0, vs0, xs0, ev0, _, h0, _⟩ := g.pre.dicD e0 (hr.rep (by rw [ey]; rfl))
      refine ⟨v, h1, a0, xs0, ev0, h0, ?_⟩
      refine (sn k).v W C _ σ δ σv H _ g.pre g.sl (OPost.then g q0 fun kd δ1 C1 H1 l1 g1 q1 u ru _ => ?_)
      refine (sn e).v W C1 _ σ δ1 σv H1 _ g1.pre g1.sl (OPost.then g1 q1 fun d δ2 C2 H2 l2 g2 q2 w rw_ _ => ?_)
      split at q2
      · rename_i ks c r ek er
        split at q2
        · exact q2.elim
        · rename_i hb
          rw [Bool.or_eq_true, not_or, Bool.not_eq_true, decide_eq_true_eq] at hb
          obtain ⟨v', h1', hr'⟩ := g2.sl.at_ i _ es
          rw [h1] at h1'; cases h1'
          obtain ⟨a, b, xs, ea, eb, sb, h, kk, hl, m1, m2, m3⟩ := g2.dic (d := d) (w := w) er ek hr' (ru.step g1.pre.cellH l2 inl_) hb.2
          rw [ev0] at ea; cases ea
          refine ⟨b, ks, xs, eb, sb, h, kk, hl, fun p hp => ?_, fun hn z hz => ?_⟩
          · cases hq : dLook ks r with
            | none => rw [m2 hq] at hp; cases hp
            | some d' =>
              obtain ⟨p', w', y1, y2, _⟩ := m1 d' hq
              rw [y1] at hp; cases hp
              rw [hq] at q2
              exact ⟨w', y2, q2 C2 σv _ g2⟩
          · cases hq : dLook ks r with
            | some d' =>
              obtain ⟨p', w', y1, y2, _⟩ := m1 d' hq
              rw [y1] at hn; cases hn
            | none =>
              rw [hq] at q2
              exact q2 C2 σv _ (m3 z (rw_.rep hb.1) hz)
      · exact q2.elim
    · exact q0.elim
  · exact q0.elim
theorem sndS_dput (sn : ∀ e, Snd Er Tb Gv e) {n : Nat} {i : Nat} {k e : E} : SndS (Er := Er) (Tb := Tb) (Gv := Gv) n (.dput i k e) := fun M0 C0 H0 Gh C σ σv H δ W Dn g q => by
  have q0 : OPost Er Tb M0 C0 H0 Gh W Dn (R.then ((evA' P e).v σ δ) σ fun d δ => match σ[i]? with
    | some (some x) => R.then ((evA' P k).v σ δ) σ fun kd δ => (match keyI kd, dicD δ x with
      | some ks, some (c, r) => if isOwn d || decide (1000000 < r.length) then .bad else .nx σ (δ.set c (.ty "dict" :: dPut ks d r))
      | _, _ => .bad)
    | _ => .bad) := q
  refine (sn e).v W C _ σ δ σv H _ g.pre g.sl (OPost.then g q0 fun d δ1 C1 H1 l1 g1 q1 w rw_ _ => ?_)
  split at q1
  · rename_i x es
    obtain ⟨v, h1, hr⟩ := g1.sl.at_ i _ es
    refine ⟨v, h1, ?_⟩
    refine (sn k).v W C1 _ σ δ1 σv H1 _ g1.pre g1.sl (OPost.then g1 q1 fun kd δ2 C2 H2 l2 g2 q2 u ru _ => ?_)
    split at q2
    · rename_i ks c r ek er
      split at q2
      · exact q2.elim
      · rename_i hb
        rw [Bool.or_eq_true, not_or, Bool.not_eq_true, decide_eq_true_eq] at hb
        obtain ⟨v', h1', hr'⟩ := g2.sl.at_ i _ es
        rw [h1] at h1'; cases h1'
        obtain ⟨a, b, xs, ea, eb, sb, h, kk, hl, m1, m2, m3⟩ := g2.dic (d := d) (w := w) er ek hr' ru hb.2
        exact ⟨a, b, ks, xs, ea, eb, sb, h, kk, hl, fun z hz => q2 C2 σv _ (m3 z ((rw_.step g1.pre.cellH l2 inl_).rep hb.1) hz)⟩
    · exact q2.elim
  · exact q1.elim
theorem sndS (sn : ∀ e, Snd Er Tb Gv e) (n : Nat) : ∀ s, SndS (Er := Er) (Tb := Tb) (Gv := Gv) n s
  | .skip => sndS_skip
  | .pass => sndS_pass
  | .seq a b => sndS_seq (sndS sn n a) (sndS sn n b)
  | .expr e => sndS_expr sn
  | .asg g e => sndS_asg sn
  | .asgO i e => sndS_asgO sn
  | .par is a => sndS_par sn
  | .asgT is a => sndS_asgT sn
  | .setx o ix e => sndS_setx sn
  | .aug i o e => sndS_aug sn
  | .augx i ix o e => sndS_augx sn
  | .tryF i e c => sndS_tryF sn
  | .raw => fun M0 C0 H0 Gh C σ σv H δ W Dn g q => q.elim
  | .lams w k lcs rhs es => fun M0 C0 H0 Gh C σ σv H δ W Dn g q => ⟨sn, M0, C0, H0, Gh, C, σ, δ, g, q⟩
  | .setf c i f e => sndS_setf sn
  | .augf c i f o e => sndS_augf sn
  | .app i e => sndS_app sn
  | .dsetd i k e => sndS_dsetd sn
  | .dput i k e => sndS_dput sn
  | .ext i e => sndS_ext sn
  | .pop i => sndS_pop
  | .ite c a b => sndS_ite sn (sndS sn n a) (sndS sn n b)
  | .whl c b => sndS_whl sn (sndS sn n b)
  | .for g k it b => sndS_for sn (sndS sn n b)
  | .ret e => sndS_ret sn
  | .retN => sndS_retN
  | .rais c => sndS_rais
  | .raisP c e => sndS_raisP sn
  | .brk => sndS_brk
  | .cont => sndS_cont
  | .frz i s => sndS_frz (sndS sn n s)
end
end Mini

namespace Mini
open PySem PySem.Spec PyProof.Rows L2
section
variable {K : PySem.W.Frag} {P : Par} {Er : Errs K P.X} {Tb : List (Addr × Str)} {Gv : Nat → V}
theorem slot_start {ts : List D} {vs : List V} {w : Nat} {C : List Addr} {M : Addr → Prop} {H : Hp} (r : RepL K C M H ts vs) : ∀ (i : Nat) (d : D), (ts.map some ++ List.replicate (w - ts.length) none)[i]? = some (some d) →
    ∃ v, (vs.map some ++ List.replicate (w - vs.length) none)[i]? = some (some v) ∧ Rep K C M H d v := fun i d e => by
  have hl := r.length
  by_cases hi : i < ts.length
  · rw [List.getElem?_append_left (by simpa using hi), List.getElem?_map] at e
    cases et : ts[i]? with
    | none => rw [et] at e; cases e
    | some t =>
      rw [et] at e
      cases e
      obtain ⟨v, h1, h2⟩ := r.get et
      exact ⟨v, by rw [List.getElem?_append_left (by simp; omega), List.getElem?_map, h1]; rfl, h2⟩
  · rw [List.getElem?_append_right (by simp; omega)] at e
    simp only [List.getElem?_replicate] at e
    split at e <;> cases e
theorem run_ok (sn : ∀ e, Snd Er Tb Gv e) {n k : Nat} {s : S} {N : List Str} {vs : List V} {H : Hp} {Q : VK} {E : XK} (h : spOf Er Tb (runF P n k N.length s) vs H Q E) :
    rdS P Er Tb Gv (fun cls d _ H => E cls d H) s { nx := fun _ H' => Q .non H', rt := Q } (L2.start N vs) H := by
  obtain ⟨C, M, ts, δ, p, r, q⟩ := h
  have hl := r.length
  have st : ∀ (i : Nat) (d : D), (ts.map some ++ List.replicate (N.length - ts.length) none)[i]? = some (some d) → ∃ v, (L2.start N vs)[i]? = some (some v) ∧ Rep K C M H d v := slot_start r
  have no : ∀ a, ¬ ownA (ts.map some ++ List.replicate (N.length - ts.length) none) (L2.start N vs) a := fun a ⟨i, us, h1, h2⟩ => by
    obtain ⟨v, _, h3⟩ := st i _ h1
    unfold Rep at h3
    exact h3
  have mm : ∀ a, MM M (ts.map some ++ List.replicate (N.length - ts.length) none) (L2.start N vs) a → M a := fun a z => z.elim id fun z => absurd z (no a)
  unfold runF at q
  split at q
  · refine sndS sn n s M C H [] C _ (L2.start N vs) H δ _ _ ⟨p.sub mm, ⟨?_, fun i d e => ?_⟩, Le.refl C H, fun a z => absurd z (no a), fun i j us ws a h1 h2 => absurd ⟨i, us, h1, h2⟩ (no a), fun g hg => by simp at hg⟩ ?_
    · unfold L2.start
      simp only [List.length_append, List.length_map, List.length_replicate]
      omega
    · obtain ⟨v, h1, h2⟩ := st i d e
      exact ⟨v, h1, (Rep.sub mm _ _ h2).repS⟩
    · cases e : evS P n s (ts.map some ++ List.replicate (N.length - ts.length) none) δ with
      | nx σ' δ' =>
        rw [e] at q
        exact fun C' σv' H' g => (q C' H' g.le (g.pre.sub MM.sub0)).2 .non mk_non
      | rt d δ' =>
        rw [e] at q
        simp only at q
        cases ho : isOwn d with
        | false =>
          rw [ho] at q
          exact ⟨ho, fun C' H' v l p' rr => (q C' H' l p').2 v rr⟩
        | true => rw [ho] at q; exact q.elim
      | bk σ' δ' => rw [e] at q; exact q.elim
      | ct σ' δ' => rw [e] at q; exact q.elim
      | ex c pl σ' δ' =>
        rw [e] at q
        intro C' σv' H' cls d g x
        refine q C' H' cls d g.le (g.pre.sub MM.sub0) ⟨x.1, x.2.1, ?_⟩
        cases pl with
        | nil => exact x.2.2
        | cons t r =>
          obtain ⟨dd, v, e1, e2, e3⟩ := x.2.2
          exact ⟨dd, v, e1, e2, Rep.sub MM.sub0 _ _ e3⟩
      | bad => rw [e] at q; exact q.elim
  · exact q.elim
end
end Mini

namespace Mini
open PySem PySem.Spec PyProof.Rows L2

structure Nm where
  N : List Str
  fn : Nat → Option Str
  gn : Nat → Option Str
  blts : List Str
  told : Str
  hs : List (Str × Str)
  lw : Bool
  gx : Bool
  gq : Str
  mth : Nat → Option (String × Str)
  fl : List (String × Str)
  pay : List (Str × Str) := []
  bd : Bool := false
  lq : Bool := false
  lcs : List Str := []
def dbg : Str := "__debug__"
def gl (sc : Scope) (x : Str) : Bool := decide (sc.names.lookup x = some .globalImplicit) && !(x == dbg)
def vis (sc : Scope) (x : Str) : Bool := decide (sc.names.lookup x = some .local) || decide (sc.names.lookup x = some .cell) || decide (sc.names.lookup x = some .free)
def bltN : Blt → Str
  | .abs => "abs"
  | .len => "len"
  | .int => "int"
  | .bool => "bool"
  | .tuple => "tuple"
  | .list => "list"
  | .max2 => "max"
  | .min2 => "min"
  | .sum => "sum"
  | .max3 => "max"
  | .maxl => "max"
  | .minl => "min"
  | .minr => "min"
  | .sorted => "sorted"
  | .str => "str"
  | .isi => "isinstance"
def bltT (nm : Nm) (sc : Scope) (x : Str) : Bool := gl sc x && nm.blts.contains x && !(x == ("__name__" : Str))
structure Mt where
  e : Bool → Scope → Expr → Bool
  a : Bool → Scope → List Expr → Bool
def Mt.ex (f : Bool → Scope → Expr → Bool) : Mt where
  e := f
  a := fun _ _ _ => false
def mtIs (nm : Nm) (sc : Scope) : List Nat → List Expr → Bool
  | [], [] => true
  | i :: is, .Name x _ :: es => decide (nm.N[i]? = some x) && decide (sc.names.lookup x = some .local) && mtIs nm sc is es
  | _, _ => false
def locC (cs sc : Scope) (x : Str) : Bool := decide (sc.names.lookup x = some .local) || (decide (sc.names.lookup x = some .cell) && cs.names.lookup x == some .cell)
def mtIsC (nm : Nm) (cs sc : Scope) : List Nat → List Expr → Bool
  | [], [] => true
  | i :: is, .Name x _ :: es => decide (nm.N[i]? = some x) && locC cs sc x && mtIsC nm cs sc is es
  | _, _ => false
def mtG (nm : Nm) (cs sc : Scope) : G → Expr → Bool
  | .name i, .Name x _ => decide (nm.N[i]? = some x) && locC cs sc x
  | .tup is, .Tuple es _ _ => mtIsC nm cs sc is es
  | .nst is i, .Tuple [.Tuple es _ _, .Name x _] _ _ => mtIsC nm cs sc is es && decide (nm.N[i]? = some x) && locC cs sc x
  | _, _ => false
def isTupE : Expr → Bool
  | .Tuple .. => true
  | _ => false
def tyNames : List String := ["int", "bool", "tuple", "str", "list"]
def ownOf (nm : Nm) (vs : List Nat) : List (Str × Nat) := vs.map fun i => (nm.N.getD i Str.empty, i)
def mtI (nm : Nm) (k : IK) (a : List Expr → Bool) (tg : Expr) (sc : Scope) : Expr → Bool := match k with
  | .seq => fun it => a [it]
  | .rng1 => fun it => match it with
    | .Call (.Name x _) [e] [] _ => x == ("range" : Str) && bltT nm sc x && a [e]
    | _ => false
  | .rng2 => fun it => match it with
    | .Call (.Name x _) [e, f] [] _ => x == ("range" : Str) && bltT nm sc x && a [e, f]
    | _ => false
  | .zip => fun it => match it with
    | .Call (.Name x _) [e, f] [] _ => x == ("zip" : Str) && bltT nm sc x && a [e, f] && isTupE tg
    | _ => false
  | .enum => fun it => match it with
    | .Call (.Name x _) [e] [] _ => x == ("enumerate" : Str) && bltT nm sc x && a [e] && isTupE tg
    | _ => false
  | .rev => fun it => match it with
    | .Call (.Name x _) [e] [] _ => x == ("reversed" : Str) && bltT nm sc x && a [e]
    | _ => false
  | .rng3 => fun it => match it with
    | .Call (.Name x _) [e, f, g] [] _ => x == ("range" : Str) && bltT nm sc x && a [e, f, g]
    | _ => false
def noArgs : Arguments → Bool
  | ⟨[], [], none, [], [], none, []⟩ => true
  | _ => false
def bnot : BoolOp → Bool
  | .And => true
  | .Or => false
def isNp : E → Bool
  | .np => true
  | _ => false
def isAnd : E → Bool
  | .and _ _ => true
  | _ => false
def isOr : E → Bool
  | .or _ _ => true
  | _ => false
def partM (lo : E) (f : Expr → Bool) : Option Expr → Bool
  | none => isNp lo
  | some l => f l
def restM (op : BoolOp) (ok : Bool) (f : Expr → Bool) (y : Expr) (p : Pos) : List Expr → Bool
  | [] => f y
  | z :: r => ok && f (.BoolOp op (y :: z :: r) p)
def ifsM (c : E) (f : Expr → Bool) : List Expr → Bool
  | [] => isNp c
  | [i] => f i
  | _ => false
def gxSB (csc : Scope) : Bool := !csc.isCoroutine && csc.names.all (fun y => !decide (y.2 = .cell)) && decide (csc.names.lookup (".0" : Str) = some NameKind.local)
def notList : Expr → Bool
  | .List .. => false
  | _ => true
def plainB : Expr → Bool
  | .Name .. => true
  | _ => false
def oneArg : Arguments → Str → Bool
  | ⟨[], [a], none, [], [], none, []⟩, v => decide (a.arg = v)
  | _, _ => false
def srtM (nm : Nm) (tl : Bool) (sc : Scope) (k : Bool) (f : Expr → Bool) : Expr → Bool
  | .Call (.Name x _) [y] [] _ => !k && (decide (x = ("sorted" : Str)) && bltT nm sc x && f y)
  | .Call (.Name x _) [y] [⟨some kw, .Lambda ps (.Tuple [.Call (.Name ln _) [.Name v _] [] _, .Name v' _] _ _) lsc _, _⟩] _ =>
    k && ((tl && nm.gx && decide (nm.gq = ("<lambda>" : Str)) && decide (x = ("sorted" : Str)) && decide (kw = ("key" : Str)) && decide (ln = ("len" : Str)) && decide (v' = v) && decide (v = ("part" : Str)) && oneArg ps v) && (bltT nm sc x && nm.blts.contains ("len" : Str) && SK.keySB lsc v && !(v == ("__debug__" : Str)) && f y))
  | _ => false
def selB (nm : Nm) (sc : Scope) : List (Str × Nat) → List (Option Expr) → List Expr → Bool
  | [], [], [] => true
  | p :: r, k :: ks, v :: vs => (match k, v with
    | some (.Constant (.str t) _ _), .Name x _ => decide (p.1 = t) && decide (nm.fn p.2 = some x) && gl sc x
    | _, _ => false) && selB nm sc r ks vs
  | _, _, _ => false
def mt (nm : Nm) : E → Mt
  | .var i => .ex fun _ sc ex => match ex with
    | .Name x _ => decide (nm.N[i]? = some x) && vis sc x && !(x == dbg) && !(x == ("__classdict__" : Str))
    | _ => false
  | .int i => .ex fun _ _ ex => match ex with
    | .Constant (.int j) _ _ => decide (i = j)
    | _ => false
  | .bl b => .ex fun _ _ ex => match ex with
    | .Constant (.bool c) _ _ => decide (b = c)
    | _ => false
  | .non => .ex fun _ _ ex => match ex with
    | .Constant .none _ _ => true
    | _ => false
  | .str s => .ex fun _ _ ex => match ex with
    | .Constant (.str t) _ _ => decide (s = t)
    | _ => false
  | .ty n => .ex fun _ sc ex => match ex with
    | .Name x _ => decide (x = Str.ofString n) && tyNames.contains n && bltT nm sc x
    | _ => false
  | .glob g => .ex fun _ sc ex => match ex with
    | .Name x _ => decide (nm.gn g = some x) && gl sc x
    | _ => false
  | .bin o a b => .ex fun tl sc ex => match ex with
    | .BinOp x p y _ => decide (o = p) && (mt nm a).e tl sc x && (mt nm b).e tl sc y
    | _ => false
  | .fdv a b => .ex fun tl sc ex => match ex with
    | .BinOp x .FloorDiv y _ => tl && nm.bd && (mt nm a).e tl sc x && (mt nm b).e tl sc y
    | _ => false
  | .neg a => .ex fun tl sc ex => match ex with
    | .UnaryOp .USub x _ => (mt nm a).e tl sc x
    | _ => false
  | .cmp o a b => .ex fun tl sc ex => match ex with
    | .Compare x [p] [y] _ => decide (o = p) && (mt nm a).e tl sc x && (mt nm b).e tl sc y
    | _ => false
  | .chain o o' a b c => .ex fun tl sc ex => match ex with
    | .Compare x [p, p'] [y, z] _ => decide (o = p) && decide (o' = p') && decide (o' ≠ .In) && decide (o' ≠ .NotIn) && (mt nm a).e tl sc x && (mt nm b).e tl sc y && (mt nm c).e tl sc z
    | _ => false
  | .and a b => .ex fun tl sc ex => match ex with
    | .BoolOp op (x :: y :: r) p => bnot op && (mt nm a).e tl sc x && restM .And (isAnd b) ((mt nm b).e tl sc) y p r
    | _ => false
  | .or a b => .ex fun tl sc ex => match ex with
    | .BoolOp op (x :: y :: r) p => !(bnot op) && (mt nm a).e tl sc x && restM .Or (isOr b) ((mt nm b).e tl sc) y p r
    | _ => false
  | .not a => .ex fun tl sc ex => match ex with
    | .UnaryOp .Not x _ => (mt nm a).e tl sc x
    | _ => false
  | .ite c a b => .ex fun tl sc ex => match ex with
    | .IfExp x y z _ => (mt nm c).e tl sc x && (mt nm a).e tl sc y && (mt nm b).e tl sc z
    | _ => false
  | .tup a => .ex fun tl sc ex => match ex with
    | .Tuple es _ _ => (mt nm a).a tl sc es
    | _ => false
  | .lst a => .ex fun tl sc ex => match ex with
    | .List es _ => (mt nm a).a tl sc es
    | _ => false
  | .idx a i => .ex fun tl sc ex => match ex with
    | .Subscript x y _ => (mt nm a).e tl sc x && (mt nm i).e tl sc y
    | _ => false
  | .srt k a => .ex fun tl sc ex => srtM nm tl sc k ((mt nm a).e tl sc) ex
  | .cnt a b => .ex fun tl sc ex => match ex with
    | .Call (.Attribute x n apos) [y] [] cpos => decide (n = ("count" : Str)) && plainB x && (apos.endLine == cpos.line) && (mt nm a).e tl sc x && (mt nm b).e tl sc y
    | _ => false
  | .ixm a b => .ex fun tl sc ex => match ex with
    | .Call (.Attribute x n apos) [y] [] cpos => decide (n = ("index" : Str)) && plainB x && (apos.endLine == cpos.line) && (mt nm a).e tl sc x && (mt nm b).e tl sc y
    | _ => false
  | .lrng a => .ex fun tl sc ex => match ex with
    | .Call (.Name x _) [.Call (.Name y _) [e] [] _] [] _ => decide (x = ("list" : Str)) && bltT nm sc x && decide (y = ("range" : Str)) && bltT nm sc y && (mt nm a).e tl sc e
    | _ => false
  | .slc a lo hi => .ex fun tl sc ex => match ex with
    | .Subscript x (.Slice l h none _) _ => (mt nm a).e tl sc x && partM lo ((mt nm lo).e tl sc) l && partM hi ((mt nm hi).e tl sc) h
    | _ => false
  | .call f a => .ex fun tl sc ex => match ex with
    | .Call (.Name x _) es [] _ => decide (nm.fn f = some x) && gl sc x && (mt nm a).a tl sc es
    | _ => false
  | .blt b a => .ex fun tl sc ex => match ex with
    | .Call (.Name x _) (e :: es) [] _ => decide (bltN b = x) && bltT nm sc x && (mt nm a).a tl sc (e :: es)
    | _ => false
  | .lc vs g k it c e => .ex fun tl sc ex => match ex with
    | .ListComp elt [⟨tg, iter, ifs, 0⟩] csc _ => blkC nm.N sc csc (ownOf nm vs) && mtG nm csc (relS csc sc) g tg && mtI nm k ((mt nm it).a tl sc) tg sc iter &&
        ifsM c ((mt nm c).e false (relS csc sc)) ifs && (mt nm e).e false (relS csc sc) elt
    | _ => false
  | .gx b vs g k it c e => .ex fun tl sc ex => match ex with
    | .Call (.Name x _) [.GeneratorExp elt [⟨tg, iter, ifs, 0⟩] csc _] [] _ => (tl && nm.gx && decide (nm.gq = ("<genexpr>" : Str)) && decide (x = GX.gxName b) && bltT nm sc x && notList iter) && (blkC nm.N sc csc (ownOf nm vs) && gxSB csc && mtG nm csc csc g tg && mtI nm k ((mt nm it).a tl sc) tg sc iter &&
        ifsM c ((mt nm c).e false csc) ifs && (mt nm e).e false csc elt)
    | _ => false
  | .gsm vs g k it c e => .ex fun tl sc ex => match ex with
    | .Call (.Name x _) [.GeneratorExp elt [⟨tg, iter, ifs, 0⟩] csc _] [] _ => (tl && nm.gx && decide (nm.gq = ("<genexpr>" : Str)) && decide (x = ("sum" : Str)) && bltT nm sc x && notList iter) && (blkC nm.N sc csc (ownOf nm vs) && gxSB csc && mtG nm csc csc g tg && mtI nm k ((mt nm it).a tl sc) tg sc iter &&
        ifsM c ((mt nm c).e false csc) ifs && (mt nm e).e false csc elt)
    | _ => false
  | .uni vs g k it c vs1 g1 k1 it1 c1 e => .ex fun tl sc ex => match ex with
    | .DictComp kx (.Constant (.bool b) _ _) [⟨tg, iter, ifs, 0⟩, ⟨tg1, iter1, ifs1, 0⟩] csc _ => b && blkC nm.N sc csc (ownOf nm vs) && vs1.all (fun i => vs.contains i) && mtG nm csc (relS csc sc) g tg && mtI nm k ((mt nm it).a tl sc) tg sc iter &&
        ifsM c ((mt nm c).e false (relS csc sc)) ifs && mtG nm csc (relS csc sc) g1 tg1 && mtI nm k1 ((mt nm it1).a false (relS csc sc)) tg1 (relS csc sc) iter1 &&
        ifsM c1 ((mt nm c1).e false (relS csc sc)) ifs1 && (mt nm e).e false (relS csc sc) kx
    | _ => false
  | .dnew => .ex fun _ _ ex => match ex with
    | .Dict [] [] _ => true
    | _ => false
  | .din n a d => .ex fun tl sc ex => match ex with
    | .Compare x [p] [y] _ => decide (p = if n then .NotIn else .In) && (mt nm a).e tl sc x && (mt nm d).e tl sc y
    | _ => false
  | .dget d a => .ex fun tl sc ex => match ex with
    | .Subscript x y _ => (mt nm d).e tl sc x && (mt nm a).e tl sc y
    | _ => false
  | .dgeto d a b => .ex fun tl sc ex => match ex with
    | .Call (.Attribute x n apos) [y, z] [] cpos => decide (n = ("get" : Str)) && plainB x && (apos.endLine == cpos.line) && (mt nm d).e tl sc x && (mt nm a).e tl sc y && (mt nm b).e tl sc z
    | _ => false
  | .fld c f a => .ex fun tl sc ex => match ex with
    | .Attribute x n _ => decide (n = f) && nm.fl.contains (c, f) && plainB x && (mt nm a).e tl sc x
    | _ => false
  | .mcl c m f o a => .ex fun tl sc ex => match ex with
    | .Call (.Attribute x n apos) es [] cpos => decide (n = m) && decide (nm.mth f = some (c, m)) && plainB x && (apos.endLine == cpos.line) && decide (es.length < 20) && (mt nm o).e tl sc x && (mt nm a).a tl sc es
    | _ => false
  | .mk c f a => .ex fun tl sc ex => match ex with
    | .Call (.Name x _) es [] _ => decide (x = Str.ofString c) && decide (nm.mth f = some (c, ("__init__" : Str))) && gl sc x && (mt nm a).a tl sc es
    | _ => false
  | .newc a => .ex (mt nm a).e
  | .scope a => .ex (mt nm a).e
  | .lend _ a => .ex (mt nm a).e
  | .told hs a => .ex fun tl sc ex => match ex with
    | .Call (.Name x _) [.Lambda ps body lsc _] [] _ => (tl && nm.lw) && decide (hs = nm.hs) && decide (x = nm.told) && gl sc x && noArgs ps && LamX.lamSB sc lsc && (mt nm a).e false lsc body
    | _ => false
  | .tab1 s i => .ex fun _ sc ex => match ex with
    | .Dict [some (.Constant (.str t) _ _)] [.Name x _] _ => decide (s = t) && decide (nm.N[i]? = some x) && vis sc x && !(x == dbg) && !(x == ("__classdict__" : Str))
    | _ => false
  | .sel fs i a => .ex fun tl sc ex => match ex with
    | .Call (.Subscript (.Dict ks vs _) (.Name x _) _) (e :: es) [] _ => selB nm sc fs ks vs && !fs.isEmpty && decide (fs.length ≤ 15) && decide (nm.N[i]? = some x) && vis sc x && !(x == dbg) && !(x == ("__classdict__" : Str)) && (mt nm a).a tl sc (e :: es)
    | _ => false
  | .nil => { e := fun _ _ _ => false, a := fun _ _ es => es.isEmpty }
  | .cons a b => { e := fun _ _ _ => false, a := fun tl sc es => match es with
    | x :: r => (mt nm a).e tl sc x && (mt nm b).a tl sc r
    | [] => false }
  | .np => { e := fun _ _ _ => false, a := fun _ _ _ => false }
termination_by structural e => e
theorem mt_star (nm : Nm) : ∀ (e : E) (tl : Bool) (sc : Scope) (v : Expr) (p : Pos), (mt nm e).e tl sc (.Starred v p) = false
  | .var _, _, _, _, _ | .int _, _, _, _, _ | .bl _, _, _, _, _ | .non, _, _, _, _ | .str _, _, _, _, _ | .ty _, _, _, _, _ | .glob _, _, _, _, _ | .bin .., _, _, _, _ | .neg _, _, _, _, _ | .cmp .., _, _, _, _ | .chain .., _, _, _, _
  | .and .., _, _, _, _ | .or .., _, _, _, _ | .not .., _, _, _, _ | .ite .., _, _, _, _ | .tup .., _, _, _, _ | .lst .., _, _, _, _ | .idx .., _, _, _, _ | .srt .., _, _, _, _ | .cnt .., _, _, _, _ | .ixm .., _, _, _, _ | .lrng _, _, _, _, _ | .dnew, _, _, _, _ | .din .., _, _, _, _ | .dget .., _, _, _, _ | .dgeto .., _, _, _, _ | .gsm .., _, _, _, _ | .uni .., _, _, _, _ | .fdv .., _, _, _, _ | .slc .., _, _, _, _ | .call .., _, _, _, _ | .fld .., _, _, _, _ | .mcl .., _, _, _, _ | .mk .., _, _, _, _ | .blt .., _, _, _, _ | .lc .., _, _, _, _ | .gx .., _, _, _, _ | .told .., _, _, _, _
  | .sel .., _, _, _, _ | .tab1 .., _, _, _, _ | .nil, _, _, _, _ | .cons .., _, _, _, _ | .np, _, _, _, _ => rfl
  | .newc a, tl, sc, v, p => mt_star nm a tl sc v p
  | .scope a, tl, sc, v, p => mt_star nm a tl sc v p
  | .lend _ a, tl, sc, v, p => mt_star nm a tl sc v p
theorem mt_slice (nm : Nm) : ∀ (e : E) (tl : Bool) (sc : Scope) (l h s : Option Expr) (p : Pos), (mt nm e).e tl sc (.Slice l h s p) = false
  | .var _, _, _, _, _, _, _ | .int _, _, _, _, _, _, _ | .bl _, _, _, _, _, _, _ | .non, _, _, _, _, _, _ | .str _, _, _, _, _, _, _ | .ty _, _, _, _, _, _, _ | .glob _, _, _, _, _, _, _ | .bin .., _, _, _, _, _, _ | .neg _, _, _, _, _, _, _ | .cmp .., _, _, _, _, _, _ | .chain .., _, _, _, _, _, _
  | .and .., _, _, _, _, _, _ | .or .., _, _, _, _, _, _ | .not .., _, _, _, _, _, _ | .ite .., _, _, _, _, _, _ | .tup .., _, _, _, _, _, _ | .lst .., _, _, _, _, _, _ | .idx .., _, _, _, _, _, _ | .srt .., _, _, _, _, _, _ | .cnt .., _, _, _, _, _, _ | .ixm .., _, _, _, _, _, _ | .lrng _, _, _, _, _, _, _ | .dnew, _, _, _, _, _, _ | .din .., _, _, _, _, _, _ | .dget .., _, _, _, _, _, _ | .dgeto .., _, _, _, _, _, _ | .gsm .., _, _, _, _, _, _ | .uni .., _, _, _, _, _, _ | .fdv .., _, _, _, _, _, _ | .slc .., _, _, _, _, _, _ | .call .., _, _, _, _, _, _ | .fld .., _, _, _, _, _, _ | .mcl .., _, _, _, _, _, _ | .mk .., _, _, _, _, _, _ | .blt .., _, _, _, _, _, _ | .lc .., _, _, _, _, _, _ | .gx .., _, _, _, _, _, _ | .told .., _, _, _, _, _, _
  | .sel .., _, _, _, _, _, _ | .tab1 .., _, _, _, _, _, _ | .nil, _, _, _, _, _, _ | .cons .., _, _, _, _, _, _ | .np, _, _, _, _, _, _ => rfl
  | .newc a, tl, sc, l, h, s, p => mt_slice nm a tl sc l h s p
  | .scope a, tl, sc, l, h, s, p => mt_slice nm a tl sc l h s p
  | .lend _ a, tl, sc, l, h, s, p => mt_slice nm a tl sc l h s p
theorem mt_set (nm : Nm) : ∀ (e : E) (tl : Bool) (sc : Scope) (l : List Expr) (k : Nat) (p : Pos), (mt nm e).e tl sc (.Set l k p) = false
  | .var _, _, _, _, _, _ | .int _, _, _, _, _, _ | .bl _, _, _, _, _, _ | .non, _, _, _, _, _ | .str _, _, _, _, _, _ | .ty _, _, _, _, _, _ | .glob _, _, _, _, _, _ | .bin .., _, _, _, _, _ | .neg _, _, _, _, _, _ | .cmp .., _, _, _, _, _ | .chain .., _, _, _, _, _
  | .and .., _, _, _, _, _ | .or .., _, _, _, _, _ | .not .., _, _, _, _, _ | .ite .., _, _, _, _, _ | .tup .., _, _, _, _, _ | .lst .., _, _, _, _, _ | .idx .., _, _, _, _, _ | .srt .., _, _, _, _, _ | .cnt .., _, _, _, _, _ | .ixm .., _, _, _, _, _ | .lrng _, _, _, _, _, _ | .dnew, _, _, _, _, _ | .din .., _, _, _, _, _ | .dget .., _, _, _, _, _ | .dgeto .., _, _, _, _, _ | .gsm .., _, _, _, _, _ | .uni .., _, _, _, _, _ | .fdv .., _, _, _, _, _ | .slc .., _, _, _, _, _ | .call .., _, _, _, _, _ | .fld .., _, _, _, _, _ | .mcl .., _, _, _, _, _ | .mk .., _, _, _, _, _ | .blt .., _, _, _, _, _ | .lc .., _, _, _, _, _ | .gx .., _, _, _, _, _ | .told .., _, _, _, _, _
  | .sel .., _, _, _, _, _ | .tab1 .., _, _, _, _, _ | .nil, _, _, _, _, _ | .cons .., _, _, _, _, _ | .np, _, _, _, _, _ => rfl
  | .newc a, tl, sc, l, k, p => mt_set nm a tl sc l k p
  | .scope a, tl, sc, l, k, p => mt_set nm a tl sc l k p
  | .lend _ a, tl, sc, l, k, p => mt_set nm a tl sc l k p
theorem mtA_set (nm : Nm) (e : E) (tl : Bool) (sc : Scope) (l : List Expr) (k : Nat) (p : Pos) : (mt nm e).a tl sc [.Set l k p] = false := by
  cases e <;> first | rfl | skip
  case cons a b =>
    show ((mt nm a).e tl sc (.Set l k p) && (mt nm b).a tl sc []) = false
    rw [mt_set]; rfl
theorem fold_of {nm : Nm} {k : IK} {it : E} {tl : Bool} {sc : Scope} {tg iter : Expr} {env : Env} (h : mtI nm k ((mt nm it).a tl sc) tg sc iter = true) : ∀ x, foldedSetIterable iter env x = pure x := by
  intro x
  cases iter with
  | Set l n p =>
    cases k <;> first | cases h | skip
    have h' : (mt nm it).a tl sc [.Set l n p] = true := h
    rw [mtA_set] at h'; cases h'
  | _ => rfl
theorem star_cons {e : Expr} {es : List Expr} {env : Env} (h : ∀ v p, e ≠ .Starred v p) : starEach (e :: es) env = (false, eval e env) :: starEach es env := by
  cases e <;> first | rfl | exact absurd rfl (h _ _)
theorem mt_ns {nm : Nm} {e : E} {tl : Bool} {sc : Scope} {ex : Expr} (h : (mt nm e).e tl sc ex = true) : ∀ v p, ex ≠ .Starred v p := fun v p z => by
  rw [z, mt_star] at h; cases h
theorem mtA_star {nm : Nm} {env : Env} {pos : Pos} : ∀ (a : E) (tl : Bool) (sc : Scope) (es : List Expr), (mt nm a).a tl sc es = true → (backTo pos (starEach es env)).any (·.1) = false ∧ ∀ e, e ∈ es → ∀ v p, e ≠ .Starred v p
  | .nil, tl, sc, [], _ => ⟨rfl, fun e h => by simp at h⟩
  | .nil, tl, sc, _ :: _, h => by cases h
  | .cons a b, tl, sc, [], h => by cases h
  | .cons a b, tl, sc, x :: r, h => by
    have h' : ((mt nm a).e tl sc x && (mt nm b).a tl sc r) = true := h
    rw [Bool.and_eq_true] at h'
    obtain ⟨h1, h2⟩ := mtA_star b tl sc r h'.2
    have ns := mt_ns h'.1
    refine ⟨?_, fun e he => ?_⟩
    · rw [star_cons ns]
      show (false || (backTo pos (starEach r env)).any (·.1)) = false
      rw [h1]; rfl
    · rcases List.mem_cons.mp he with he | he
      · rw [he]; exact ns
      · exact h2 e he
  | .var _, _, _, _, h | .int _, _, _, _, h | .bl _, _, _, _, h | .non, _, _, _, h | .str _, _, _, _, h | .ty _, _, _, _, h | .glob _, _, _, _, h | .bin .., _, _, _, h | .neg _, _, _, _, h | .cmp .., _, _, _, h | .chain .., _, _, _, h
  | .and .., _, _, _, h | .or .., _, _, _, h | .not .., _, _, _, h | .ite .., _, _, _, h | .tup .., _, _, _, h | .lst .., _, _, _, h | .idx .., _, _, _, h | .srt .., _, _, _, h | .cnt .., _, _, _, h | .ixm .., _, _, _, h | .lrng _, _, _, _, h | .dnew, _, _, _, h | .din .., _, _, _, h | .dget .., _, _, _, h | .dgeto .., _, _, _, h | .gsm .., _, _, _, h | .uni .., _, _, _, h | .fdv .., _, _, _, h | .slc .., _, _, _, h | .call .., _, _, _, h | .fld .., _, _, _, h | .mcl .., _, _, _, h | .mk .., _, _, _, h | .blt .., _, _, _, h | .lc .., _, _, _, h | .gx .., _, _, _, h | .told .., _, _, _, h
  | .np, _, _, _, h | .newc _, _, _, _, h | .scope _, _, _, _, h | .lend _ _, _, _, _, h => by cases h
theorem boot_blt : ∀ b, bootBuiltins (bltN b) = some (bltV b)
  | .abs => by decide +kernel
  | .len => by decide +kernel
  | .int => by decide +kernel
  | .bool => by decide +kernel
  | .tuple => by decide +kernel
  | .list => by decide +kernel
  | .max2 => by decide +kernel
  | .min2 => by decide +kernel
  | .sum => by decide +kernel
  | .max3 => by decide +kernel
  | .maxl => by decide +kernel
  | .minl => by decide +kernel
  | .minr => by decide +kernel
  | .sorted => by decide +kernel
  | .str => by decide +kernel
  | .isi => by decide +kernel
theorem boot_ty : ∀ n, n ∈ tyNames → bootBuiltins (Str.ofString n) = some (.type n) := by decide +kernel
end Mini

namespace Mini
open PySem PySem.Spec PyProof.Rows L2
structure Lib (P : Par) {K : PySem.W.Frag} (Er : Errs K P.X) (Tb : List (Addr × Str)) (Gv : Nat → V) (nm : Nm) (kk : Nat) (prog : Program) (w : World) (mg : Str → Option Value) (base : Heap) : Prop where
  fns : ∀ f x, nm.fn f = some x → ∃ fa fd ps k, k ≤ kk ∧ mg x = some (.ref fa) ∧ PySem.W.keepIn K (.ref fa) = true ∧ FnOk prog w K mg base (L2.CX prog w) k fa fd ps (spOf Er Tb (P.F f)) ∧ Binds K fd ps []
  glb : ∀ g x, nm.gn g = some x → ∃ u, mg x = some u ∧ RelV (Gv g) u
  blt : ∀ x, x ∈ nm.blts → mg x = none
  mts : ∀ f c m, nm.mth f = some (c, m) → Cls K (clsA K c) ∧ ∃ fa fd ps k, k + 1 ≤ kk ∧ Meth K (clsA K c) m fa ∧ FnOk prog w K mg base (L2.CX prog w) k fa fd ps (spOf Er Tb (P.F f)) ∧ Binds K fd ps [] ∧
    (m = ("__init__" : Str) → Mk K (clsA K c) fa ∧ mg (Str.ofString c) = some (.ref (clsA K c)))
  fls : ∀ c f, (c, f) ∈ nm.fl → Cls K (clsA K c) ∧ NoAttr K (clsA K c) f
  sr : nm.bd = true → Sr0 base ∧ prog.given.tree = none ∧ 32 ≤ kk
  rp : ∀ c f, (c, f) ∈ nm.pay → Er.xf c = f ∧ Er.xv c = .ref (refA (Er.xv c)) ∧ mg c = some (.ref (refA (Er.xv c))) ∧ MiniP.PayC K prog (refA (Er.xv c)) f
structure Amb (nm : Nm) (kk : Nat) (Tb : List (Addr × Str)) (xv : Str → Value) (X : Cx) (sc : Scope) (W : WX) (tl : Bool) : Prop where
  N : X.N = nm.N
  nd : nm.N.Nodup
  calm : X.calm = true
  hsc : X.env.scope = sc
  tk : Takes X W
  room : Room kk X.A
  gx : tl = true → nm.gx = true → Room (kk + 1) X.A ∧ ∃ c P : Addr, LamX.TabB X.base X.mg c P ∧ X.env.code = .ref c ∧ (P, X.env.qual ++ nm.gq) ∈ Tb ∧ ∀ p ∈ Tb, p.1 = P → p.2 = X.env.qual ++ nm.gq
  told : tl = true → nm.lw = true → ∀ (t : XK → TE) (ps : Arguments) (body : Expr) (lsc : Scope) (p lpos pos : Pos), noArgs ps = true → LamX.lamSB sc lsc = true → gl sc nm.told = true →
    (∀ (A : Around) (outer : List Env) (s : Shared) (H : Hp) (E : XK) (f c' : Addr), Room kk (A.deeper (LamX.lamEnv X lsc s.heap.objs.size f c')) → PE (LamX.lamCx X A outer s H E lsc f c') body (t E)) →
    PE X (.Call (.Name nm.told p) [.Lambda ps body lsc lpos] [] pos) (LamX.tLam Tb (TTm X.K xv nm.hs) t)
  see : tl = true → nm.bd = true → (∀ h : Heap, (∀ b o, X.base.get? b = some o → h.get? b = some o) → X.A.frames = some X.stack → BltOk X.base → SeerAt (model X.prog X.w) X.A h) ∧ X.A.depth + Builtin.pylongFrames < recursionLimit
section
variable {X : Cx} {sc : Scope} {nm : Nm}
theorem gl_of {x : Str} (hs : X.env.scope = sc) (h : gl sc x = true) : Gl X x ∧ (x == ("__debug__" : Str)) = false := by
  unfold gl at h
  rw [Bool.and_eq_true, Bool.not_eq_true'] at h
  refine ⟨?_, h.2⟩
  show X.env.scope.names.lookup x = _
  rw [hs]
  exact of_decide_eq_true h.1
theorem bltT_of {x : Str} (hs : X.env.scope = sc) (h : bltT nm sc x = true) : Gl X x ∧ (x == ("__debug__" : Str)) = false ∧ x ∈ nm.blts ∧ x ≠ "__name__" := by
  unfold bltT at h
  rw [Bool.and_eq_true, Bool.and_eq_true, Bool.not_eq_true'] at h
  obtain ⟨h1, h2⟩ := gl_of hs h.1.1
  exact ⟨h1, h2, by simpa using h.1.2, by simpa using h.2⟩
theorem vis_of {x : Str} (hs : X.env.scope = sc) (h : vis sc x = true) : Vis X.env.scope x := by
  unfold vis at h
  rw [Bool.or_eq_true, Bool.or_eq_true] at h
  rw [hs]
  rcases h with (h | h) | h
  · exact .inl (of_decide_eq_true h)
  · exact .inr (.inl (of_decide_eq_true h))
  · exact .inr (.inr (of_decide_eq_true h))
theorem isN_ {x : Str} {i : Nat} (hN : X.N = nm.N) (h : decide (nm.N[i]? = some x) = true) : X.N[i]? = some x := by rw [hN]; exact of_decide_eq_true h
theorem val3 {ex : Expr} {t : TE} (h : PE X ex t) (he : ∀ whole, isTrue ex X.env whole = (do let v ← whole; standAt ex.pos; holding [v] (truthy v)) := by intro _; rfl) (hb : ∀ op es p, ex ≠ .BoolOp op es p := by intro _ _ _ z; cases z) :
    PE X ex (Rd.val X.K t).v ∧ PT X ex (Rd.val X.K t).t ∧ PO X (some ex) (Rd.val X.K t).o ∧ (∀ op es p, ex = .BoolOp op es p → PW X ex (Rd.val X.K t).t) := ⟨h, pt_truth h he, po_some h, fun op es p z => absurd z (hb op es p)⟩
theorem tst3 {ex : Expr} {t : TE} {tt : TT} (h : PE X ex t) (h2 : PT X ex tt) (h3 : ∀ op es p, ex = .BoolOp op es p → PW X ex tt) : PE X ex (Rd.tst t tt).v ∧ PT X ex (Rd.tst t tt).t ∧ PO X (some ex) (Rd.tst t tt).o ∧ (∀ op es p, ex = .BoolOp op es p → PW X ex (Rd.tst t tt).t) :=
  ⟨h, h2, ⟨fun _ _ _ _ _ _ z => z.elim⟩, h3⟩
theorem pt_no {ex : Expr} : PT X ex fun _ _ _ => False := ⟨fun _ _ _ _ _ _ z => z.elim⟩
theorem pw_no {ex : Expr} : PW X ex fun _ _ _ => False := ⟨fun _ _ _ _ _ _ _ z => z.elim⟩
theorem pe_callS0 {CX : CXT} {k : Nat} {f : Addr} {fd : FuncData} {ps : List Str} {sp : Sp} {E : L2.St → XK} {x : Str} {p pos : Pos} (F : FnOk X.prog X.w X.K X.mg X.base CX k f fd ps sp) (hr : Room k X.A) (hg : Gl X x) (hm : X.mg x = some (.ref f)) (hk : PySem.W.keepIn X.K (.ref f) = true) (hb : Binds X.K fd ps []) (hx : ∀ σ, PassesAt CX X σ (E σ))
    (hdb : (x == ("__debug__" : Str)) = false) : PE X (.Call (.Name x p) [] [] pos) (tCallS sp E tNil) := by
  refine ⟨fun pins s σ H Q I h => ?_⟩
  refine wpAny_Call_Name_kw (ld_glob I hg hm ?_ hdb)
  exact PySem.W.callWith_K0 I.kIn hk (run_fnS (us := []) F hr hb (hx σ) I .nil h)
theorem nos_of {nm : Nm} {a : E} {tl : Bool} {sc : Scope} {ex : Expr} (h : (mt nm a).e tl sc ex = true) : PlainIx ex := by
  intro o i
  cases ex with
  | Slice l u s p => rw [mt_slice] at h; cases h
  | _ => rfl
theorem nosl_of {nm : Nm} {a : E} {tl : Bool} {sc : Scope} {ex : Expr} (h : (mt nm a).e tl sc ex = true) : NoSl ex := by
  intro ov iv
  cases ex <;> first | rfl | skip
  case Slice l u s p => rw [mt_slice] at h; cases h
theorem not_in {o : CmpOp} {b : Expr} (h1 : decide (o ≠ .In) = true) (h2 : decide (o ≠ .NotIn) = true) : behindInMarks o b = false := nobehind b (of_decide_eq_true h1) (of_decide_eq_true h2)

theorem locC_of {cs : Scope} {x : Str} (hf : ∀ x, (cs.names.lookup x == some .cell) = true → X.fn x = true) (hs : X.env.scope = sc) (h : locC cs sc x = true) : Loc X.env.scope x ∧ (X.fn x = true ∨ X.env.scope.names.lookup x = some .local) := by
  unfold locC at h
  rw [Bool.or_eq_true, Bool.and_eq_true] at h
  rw [hs]
  rcases h with h | ⟨h, k⟩
  · exact ⟨.inl (of_decide_eq_true h), .inr (of_decide_eq_true h)⟩
  · exact ⟨.inr (of_decide_eq_true h), .inl (hf x k)⟩
theorem pgs_of {cs : Scope} {is : List Nat} {es : List Expr} (hf : ∀ x, (cs.names.lookup x == some .cell) = true → X.fn x = true) (hN : X.N = nm.N) (nd : nm.N.Nodup) (hs : X.env.scope = sc) (h : mtIsC nm cs sc is es = true) :
    PGs X es (gNames is) ∧ (assignEach es X.env).length = is.length ∧ (assignEach es X.env).findIdx? (·.1) = none ∧ es.length = is.length := by
  induction is generalizing es with
  | nil =>
    cases es with
    | nil => exact ⟨pgs_nil, rfl, rfl, rfl⟩
    | cons e r => cases h
  | cons i is ih =>
    cases es with
    | nil => cases h
    | cons e r =>
      cases e <;> first | cases h | skip
      case Name x p =>
      have h' : (decide (nm.N[i]? = some x) && locC cs sc x && mtIsC nm cs sc is r) = true := h
      rw [Bool.and_eq_true, Bool.and_eq_true] at h'
      obtain ⟨h1, h2, h3, h4⟩ := ih h'.2
      have hl := locC_of hf hs h'.1.2
      refine ⟨pgs_cons (pg_name (by rw [hN]; exact nd) (isN_ hN h'.1.1) hl.1 hl.2) h1 (by rfl), ?_, ?_, ?_⟩
      · show (assignEach r X.env).length + 1 = _
        rw [h2]; rfl
      · show ((false, assign (.Name x p) X.env) :: assignEach r X.env).findIdx? (·.1) = none
        rw [List.findIdx?_cons, h3]
        rfl
      · rw [List.length_cons, List.length_cons, h4]
theorem pg_or {ex : Expr} {t u : TG} (h1 : PG X ex t) (h2 : PG X ex u) : PG X ex fun v σ H Q => t v σ H Q ∨ u v σ H Q := ⟨fun pins s σ H v w Q I r q => q.elim (fun q => h1.run pins s σ H v w Q I r q) fun q => h2.run pins s σ H v w Q I r q⟩
theorem pg_of {cs : Scope} {g : G} {tg : Expr} (hf : ∀ x, (cs.names.lookup x == some .cell) = true → X.fn x = true) (hc : X.calm = true) (hN : X.N = nm.N) (nd : nm.N.Nodup) (hs : X.env.scope = sc) (h : mtG nm cs sc g tg = true) : PG X tg (gK X.K g) := by
  cases g with
  | name i =>
    cases tg <;> first | cases h | skip
    case Name x p =>
    have h' : (decide (nm.N[i]? = some x) && locC cs sc x) = true := h
    rw [Bool.and_eq_true] at h'
    have hl := locC_of hf hs h'.2
    exact pg_name (by rw [hN]; exact nd) (isN_ hN h'.1) hl.1 hl.2
  | tup is =>
    cases tg <;> first | cases h | skip
    case Tuple es k p =>
    obtain ⟨h1, h2, h3, _⟩ := pgs_of hf hN nd hs h
    exact pg_or (pg_tup hc h1 h2 h3) (pg_lst hc h1 h2 h3)
  | nst is i =>
    cases tg <;> first | cases h | skip
    case Tuple es k p =>
    rcases es with _ | ⟨e1, _ | ⟨e2, _ | ⟨_, _⟩⟩⟩ <;> first | cases h | skip
    · cases e1 <;> cases h
    · cases e1 <;> first | cases h | skip
      case Tuple es2 k2 p2 =>
      cases e2 <;> first | cases h | skip
      case Name x p3 =>
      have h' : (mtIsC nm cs sc is es2 && decide (nm.N[i]? = some x) && locC cs sc x) = true := h
      rw [Bool.and_eq_true, Bool.and_eq_true] at h'
      obtain ⟨h1, h2, h3, _⟩ := pgs_of hf hN nd hs h'.1.1
      have hl := locC_of hf hs h'.2
      exact pg_tup hc (pgs_cons (pg_tup hc h1 h2 h3) (pgs_cons (pg_name (by rw [hN]; exact nd) (isN_ hN h'.1.2) hl.1 hl.2) pgs_nil (by rfl)) (by rfl))
    · cases e1 <;> first | cases h | skip
      case Tuple es2 k2 p2 => cases e2 <;> cases h

theorem pi_seq {tg l : Expr} {te : TE} (hl : PE X l te) : PI X tg l (rI (K := X.K) .seq (tCons te tNil)) := by
  refine ⟨fun pins s σ H R I h => ?_⟩
  refine thn (hl.run pins s σ H _ I h) fun v s1 ⟨x, H1, I1, r1, q1⟩ => ?_
  obtain ⟨a, e, q1⟩ := q1
  cases e
  cases r1
  rcases q1 with ⟨⟨xs, hq⟩, q⟩ | ⟨⟨xs, hq⟩, q⟩
  · obtain ⟨its, rv, p, hz⟩ := I1.list hq
    refine wpAny_pyIter_list p.isList ?_
    refine ⟨s1.heap.objs.size, [s1.heap.objs.size], _, _, H1, rfl, I1.kept (t' := s1.toks) fun b o e => Heap.get?_push_of_some _ e, turn_list a _, ⟨_, Heap.get?_push_size _ rfl, rfl, rfl⟩, fun b hb => ?_, q⟩
    have e : b = s1.heap.objs.size := by simpa using hb
    subst e
    exact I1.fpOk (Nat.le_refl _) (I1.hok.fresh (Nat.le_refl _))
  · obtain ⟨its, rv, p, hz⟩ := I1.tuple hq
    refine wpAny_pyIter_tuple (show s1.heap.IsTuple a its.toArray from p) ?_
    refine ⟨s1.heap.objs.size, [s1.heap.objs.size], _, _, H1, rfl, I1.kept (t' := s1.toks) fun b o e => Heap.get?_push_of_some _ e, turn_tuple a _, ⟨_, Heap.get?_push_size _ rfl, rfl, rfl⟩, fun b hb => ?_, q⟩
    have e : b = s1.heap.objs.size := by simpa using hb
    subst e
    exact I1.fpOk (Nat.le_refl _) (I1.hok.fresh (Nat.le_refl _))
theorem pi_rev {tg e : Expr} {te : TE} {p pos : Pos} (hg : Gl X "reversed") (hm : X.mg "reversed" = none) (he : PE X e te) (ns : ∀ v p, e ≠ .Starred v p) : PI X tg (.Call (.Name "reversed" p) [e] [] pos) (rI (K := X.K) .rev (tCons te tNil)) := by
  have h := RT.pi_revA (tg := tg) (p := p) (pos := pos) hg hm he (star_cons ns)
  refine ⟨fun pins s σ H R I q => h.run pins s σ H R I ?_⟩
  have q' : te σ H fun x H1 => ∃ a xs, [x] = [V.ref a] ∧ ((SqL X.K H1 a xs ∧ R (Itv X.K a xs.length) H1) ∨ (SqT X.K H1 a xs ∧ R (RT.ItvT X.K a xs.length) H1)) := q
  have e : (fun x H1 => ∃ a xs, [x] = [V.ref a] ∧ ((SqL X.K H1 a xs ∧ R (Itv X.K a xs.length) H1) ∨ (SqT X.K H1 a xs ∧ R (RT.ItvT X.K a xs.length) H1))) = fun x H1 => ∃ (a : Addr) (xs : List V), x = .ref a ∧ ((SqL X.K H1 a xs ∧ R (Itv X.K a xs.length) H1) ∨ (SqT X.K H1 a xs ∧ R (RT.ItvT X.K a xs.length) H1)) := by
    funext x H1
    simp
  rw [e] at q'
  exact q'
def One (nm : Nm) (X : Cx) (it : E) (tl : Bool) (sc : Scope) (ta : TA) : Prop := ∀ ex, (mt nm it).a tl sc [ex] = true → ∃ te, ta = tCons te tNil ∧ PE X ex te
theorem pi_of {k : IK} {it : E} {ta : TA} {tl : Bool} {tg iter : Expr} (hsc : X.env.scope = sc) (hb : ∀ x, x ∈ nm.blts → X.mg x = none) (hpa : ∀ es, (mt nm it).a tl sc es = true → PA X es ta) (h1 : One nm X it tl sc ta)
    (h : mtI nm k ((mt nm it).a tl sc) tg sc iter = true) : PI X tg iter (rI (K := X.K) k ta) := by
  cases k with
  | seq =>
    obtain ⟨te, e, hp⟩ := h1 iter h
    rw [e]; exact pi_seq hp
  | rng1 =>
    simp only [mtI] at h
    split at h
    · rename_i x _ e _
      rw [Bool.and_eq_true, Bool.and_eq_true] at h
      obtain ⟨⟨hx, hbt⟩, ha⟩ := h
      have hx : x = "range" := by simpa using hx
      subst hx
      obtain ⟨g1, g2, g3, g4⟩ := bltT_of hsc hbt
      exact pi_range1 g1 (hb _ g3) (hpa _ ha) (star_cons (((mtA_star (env := X.env) (pos := default) it tl sc _ ha)).2 e (by simp)))
    · cases h
  | rng2 =>
    simp only [mtI] at h
    split at h
    · rename_i x _ e f _
      rw [Bool.and_eq_true, Bool.and_eq_true] at h
      obtain ⟨⟨hx, hbt⟩, ha⟩ := h
      have hx : x = "range" := by simpa using hx
      subst hx
      obtain ⟨g1, g2, g3, g4⟩ := bltT_of hsc hbt
      have hns := (mtA_star (env := X.env) (pos := default) it tl sc _ ha).2
      have hf : starEach [f] X.env = [(false, eval f X.env)] := star_cons (hns f (by simp))
      exact pi_range2 g1 (hb _ g3) (hpa _ ha) (by rw [star_cons (hns e (by simp)), hf]) hf
    · cases h
  | rng3 =>
    simp only [mtI] at h
    split at h
    · rename_i x _ e f g _
      rw [Bool.and_eq_true, Bool.and_eq_true] at h
      obtain ⟨⟨hx, hbt⟩, ha⟩ := h
      have hx : x = "range" := by simpa using hx
      subst hx
      obtain ⟨g1, g2, g3, g4⟩ := bltT_of hsc hbt
      have hns := (mtA_star (env := X.env) (pos := default) it tl sc _ ha).2
      have hg2 : starEach [g] X.env = [(false, eval g X.env)] := star_cons (hns g (by simp))
      have hf : starEach [f, g] X.env = [(false, eval f X.env), (false, eval g X.env)] := by rw [star_cons (hns f (by simp)), hg2]
      exact pi_range3 g1 (hb _ g3) (hpa _ ha) (star_cons (hns e (by simp))) (by rw [hf]; rfl)
    · cases h
  | zip =>
    simp only [mtI] at h
    split at h
    · rename_i x _ e f _
      rw [Bool.and_eq_true, Bool.and_eq_true, Bool.and_eq_true] at h
      obtain ⟨⟨⟨hx, hbt⟩, ha⟩, ht⟩ := h
      have hx : x = "zip" := by simpa using hx
      subst hx
      obtain ⟨g1, g2, g3, g4⟩ := bltT_of hsc hbt
      have hns := (mtA_star (env := X.env) (pos := default) it tl sc _ ha).2
      cases tg <;> first | cases ht | skip
      case Tuple.refl ts kk tp =>
      have hf : starEach [f] X.env = [(false, eval f X.env)] := star_cons (hns f (by simp))
      exact RZ.pi_zipA g1 (hb _ g3) (hpa _ ha) (star_cons (hns e (by simp))) (by rw [hf]; rfl)
    · cases h
  | enum =>
    simp only [mtI] at h
    split at h
    · rename_i x _ e _
      rw [Bool.and_eq_true, Bool.and_eq_true, Bool.and_eq_true] at h
      obtain ⟨⟨⟨hx, hbt⟩, ha⟩, ht⟩ := h
      have hx : x = "enumerate" := by simpa using hx
      subst hx
      obtain ⟨g1, g2, g3, g4⟩ := bltT_of hsc hbt
      have hns := (mtA_star (env := X.env) (pos := default) it tl sc _ ha).2
      cases tg <;> first | cases ht | skip
      case Tuple.refl ts kk tp =>
      exact ET.pi_enumA g1 (hb _ g3) (hpa _ ha) (star_cons (hns e (by simp)))
    · cases h
  | rev =>
    simp only [mtI] at h
    split at h
    · rename_i x _ e _
      rw [Bool.and_eq_true, Bool.and_eq_true] at h
      obtain ⟨⟨hx, hbt⟩, ha⟩ := h
      have hx : x = "reversed" := by simpa using hx
      subst hx
      obtain ⟨g1, g2, g3, g4⟩ := bltT_of hsc hbt
      obtain ⟨te, e1, hp⟩ := h1 e ha
      rw [e1]
      exact pi_rev g1 (hb _ g3) hp ((mtA_star (env := X.env) (pos := default) it tl sc _ ha).2 e (by simp))
    · cases h
end

structure Der (nm : Nm) {P : Par} (X : Cx) (Er : Errs X.K P.X) (Tb : List (Addr × Str)) (Gv : Nat → V) (W : WX) (sc : Scope) (tl : Bool) (m : E) : Prop where
  e : ∀ ex, (mt nm m).e tl sc ex = true → PE X ex (rd P Er Tb Gv m W).v ∧ PT X ex (rd P Er Tb Gv m W).t ∧ PO X (some ex) (rd P Er Tb Gv m W).o ∧ (∀ op es p, ex = .BoolOp op es p → PW X ex (rd P Er Tb Gv m W).t)
  a : ∀ es, (mt nm m).a tl sc es = true → PA X es (rd P Er Tb Gv m W).a
  one : One nm X m tl sc (rd P Er Tb Gv m W).a
section
variable {nm : Nm} {kk : Nat} {P : Par} {Tb : List (Addr × Str)} {Gv : Nat → V}
def DerAll (nm : Nm) (kk : Nat) (P : Par) (Tb : List (Addr × Str)) (Gv : Nat → V) (e : E) : Prop := ∀ (X : Cx) (Er : Errs X.K P.X) (W : WX) (sc : Scope) (tl : Bool), Lib P Er Tb Gv nm kk X.prog X.w X.mg X.base → Amb nm kk Tb Er.xv X sc W tl → Der nm X Er Tb Gv W sc tl e
theorem der_no {e : E} {X : Cx} {Er : Errs X.K P.X} {W : WX} {sc : Scope} {tl : Bool} (h : ∀ es, (mt nm e).a tl sc es = false)
    (he : ∀ ex, (mt nm e).e tl sc ex = true → PE X ex (rd P Er Tb Gv e W).v ∧ PT X ex (rd P Er Tb Gv e W).t ∧ PO X (some ex) (rd P Er Tb Gv e W).o ∧ (∀ op es p, ex = .BoolOp op es p → PW X ex (rd P Er Tb Gv e W).t)) : Der nm X Er Tb Gv W sc tl e :=
  ⟨he, fun es z => absurd (z.symm.trans (h es)) (by decide), fun ex z => absurd (z.symm.trans (h [ex])) (by decide)⟩
theorem der_var {i : Nat} : DerAll nm kk P Tb Gv (.var i) := fun X Er W sc tl L A => der_no (fun _ => rfl) fun ex h => by
  cases ex <;> first | cases h | skip
  case Name x p =>
  have h' : (decide (nm.N[i]? = some x) && vis sc x && !(x == dbg) && !(x == ("__classdict__" : Str))) = true := h
  rw [Bool.and_eq_true, Bool.and_eq_true, Bool.and_eq_true, Bool.not_eq_true', Bool.not_eq_true'] at h'
  exact val3 (pe_var (isN_ A.N h'.1.1.1) (vis_of A.hsc h'.1.1.2) h'.1.2 h'.2)
theorem der_int {i : Int} : DerAll nm kk P Tb Gv (.int i) := fun X Er W sc tl L A => der_no (fun _ => rfl) fun ex h => by
  cases ex <;> first | cases h | skip
  case Constant c k p =>
  cases c <;> first | cases h | skip
  case int j =>
  have e : i = j := of_decide_eq_true h
  subst e
  exact val3 pe_int
theorem der_bl {b : Bool} : DerAll nm kk P Tb Gv (.bl b) := fun X Er W sc tl L A => der_no (fun _ => rfl) fun ex h => by
  cases ex <;> first | cases h | skip
  case Constant c k p =>
  cases c <;> first | cases h | skip
  case bool j =>
  have e : b = j := of_decide_eq_true h
  subst e
  exact val3 pe_bl
theorem der_non : DerAll nm kk P Tb Gv .non := fun X Er W sc tl L A => der_no (fun _ => rfl) fun ex h => by
  cases ex <;> first | cases h | skip
  case Constant c k p =>
  cases c <;> first | cases h | skip
  case none => exact val3 pe_non
theorem der_str {s : Str} : DerAll nm kk P Tb Gv (.str s) := fun X Er W sc tl L A => der_no (fun _ => rfl) fun ex h => by
  cases ex <;> first | cases h | skip
  case Constant c k p =>
  cases c <;> first | cases h | skip
  case str j =>
  have e : s = j := of_decide_eq_true h
  subst e
  exact val3 pe_str
theorem der_ty {n : String} : DerAll nm kk P Tb Gv (.ty n) := fun X Er W sc tl L A => der_no (fun _ => rfl) fun ex h => by
  cases ex <;> first | cases h | skip
  case Name x p =>
  have h' : (decide (x = Str.ofString n) && tyNames.contains n && bltT nm sc x) = true := h
  rw [Bool.and_eq_true, Bool.and_eq_true] at h'
  obtain ⟨g1, g2, g3, g4⟩ := bltT_of A.hsc h'.2
  have hx : x = Str.ofString n := of_decide_eq_true h'.1.1
  have hb := boot_ty n (by simpa using h'.1.2)
  exact val3 (pe_bltn g1 (L.blt _ g3) (by rw [hx]; exact hb) rfl g4 g2)
theorem der_glob {g : Nat} : DerAll nm kk P Tb Gv (.glob g) := fun X Er W sc tl L A => der_no (fun _ => rfl) fun ex h => by
  cases ex <;> first | cases h | skip
  case Name x p =>
  have h' : (decide (nm.gn g = some x) && gl sc x) = true := h
  rw [Bool.and_eq_true] at h'
  obtain ⟨u, h1, h2⟩ := L.glb g x (of_decide_eq_true h'.1)
  obtain ⟨g1, g2⟩ := gl_of A.hsc h'.2
  exact val3 (pe_glob g1 h1 h2 g2)
theorem der_bin {o : Operator} {a b : E} (ha : DerAll nm kk P Tb Gv a) (hb : DerAll nm kk P Tb Gv b) : DerAll nm kk P Tb Gv (.bin o a b) := fun X Er W sc tl L A => der_no (fun _ => rfl) fun ex h => by
  cases ex <;> first | cases h | skip
  case BinOp x p y q =>
  have h' : (decide (o = p) && (mt nm a).e tl sc x && (mt nm b).e tl sc y) = true := h
  rw [Bool.and_eq_true, Bool.and_eq_true] at h'
  have e : o = p := of_decide_eq_true h'.1.1
  subst e
  exact val3 (pe_op (op_bin o) ((ha X Er W sc tl L A).e x h'.1.2).1 ((hb X Er W sc tl L A).e y h'.2).1)
theorem der_neg {a : E} (ha : DerAll nm kk P Tb Gv a) : DerAll nm kk P Tb Gv (.neg a) := fun X Er W sc tl L A => der_no (fun _ => rfl) fun ex h => by
  cases ex <;> first | cases h | skip
  case UnaryOp o x p =>
  cases o <;> first | cases h | skip
  case USub =>
  exact val3 (pe_un un_neg ((ha X Er W sc tl L A).e x h).1)
theorem der_fdv {a b : E} (ha : DerAll nm kk P Tb Gv a) (hb : DerAll nm kk P Tb Gv b) : DerAll nm kk P Tb Gv (.fdv a b) := fun X Er W sc tl L A => der_no (fun _ => rfl) fun ex h => by
  cases ex <;> first | cases h | skip
  case BinOp x op y p =>
  cases op <;> first | cases h | skip
  have h' : (tl && nm.bd && (mt nm a).e tl sc x && (mt nm b).e tl sc y) = true := h
  rw [Bool.and_eq_true, Bool.and_eq_true, Bool.and_eq_true] at h'
  obtain ⟨⟨⟨h1, h2⟩, h3⟩, h4⟩ := h'
  obtain ⟨s1, s2⟩ := A.see h1 h2
  exact val3 (pe_op (op_fdvB s1 s2) ((ha X Er W sc tl L A).e x h3).1 ((hb X Er W sc tl L A).e y h4).1)
theorem der_cmp {o : CmpOp} {a b : E} (ha : DerAll nm kk P Tb Gv a) (hb : DerAll nm kk P Tb Gv b) : DerAll nm kk P Tb Gv (.cmp o a b) := fun X Er W sc tl L A => der_no (fun _ => rfl) fun ex h => by
  cases ex <;> first | cases h | skip
  case Compare x ops cs q =>
  rcases ops with _ | ⟨p, _ | ⟨_, _⟩⟩ <;> first | cases h | skip
  rcases cs with _ | ⟨y, _ | ⟨_, _⟩⟩ <;> first | cases h | skip
  have h' : (decide (o = p) && (mt nm a).e tl sc x && (mt nm b).e tl sc y) = true := h
  rw [Bool.and_eq_true, Bool.and_eq_true] at h'
  have e : o = p := of_decide_eq_true h'.1.1
  subst e
  have hu65 : X.A.units + 65 < cLine := by have := A.room.un; omega
  have pa := ((ha X Er W sc tl L A).e x h'.1.2).1
  have pb := ((hb X Er W sc tl L A).e y h'.2).1
  have ni : behindInMarks o y = false := by
    cases y <;> first | rfl | skip
    case Set l k p => rw [mt_set] at h'; exact absurd h'.2 (by decide)
  exact tst3 (pe_cmpR (op_cmp hu65 o) pa pb ni) (pt_cmpR (op_cmp hu65 o) pa pb ni) (fun _ _ _ z => by cases z)
theorem der_chain {o o' : CmpOp} {a b c : E} (ha : DerAll nm kk P Tb Gv a) (hb : DerAll nm kk P Tb Gv b) (hc : DerAll nm kk P Tb Gv c) : DerAll nm kk P Tb Gv (.chain o o' a b c) := fun X Er W sc tl L A => der_no (fun _ => rfl) fun ex h => by
  cases ex <;> first | cases h | skip
  case Compare x ops cs q =>
  rcases ops with _ | ⟨p, _ | ⟨p', _ | ⟨_, _⟩⟩⟩ <;> first | cases h | skip
  rcases cs with _ | ⟨y, _ | ⟨z, _ | ⟨_, _⟩⟩⟩ <;> first | cases h | skip
  have h' : (decide (o = p) && decide (o' = p') && decide (o' ≠ .In) && decide (o' ≠ .NotIn) && (mt nm a).e tl sc x && (mt nm b).e tl sc y && (mt nm c).e tl sc z) = true := h
  rw [Bool.and_eq_true, Bool.and_eq_true, Bool.and_eq_true, Bool.and_eq_true, Bool.and_eq_true, Bool.and_eq_true] at h'
  have e : o = p := of_decide_eq_true h'.1.1.1.1.1.1
  have e' : o' = p' := of_decide_eq_true h'.1.1.1.1.1.2
  subst e e'
  have pa := ((ha X Er W sc tl L A).e x h'.1.1.2).1
  have pb := ((hb X Er W sc tl L A).e y h'.1.2).1
  have pc := ((hc X Er W sc tl L A).e z h'.2).1
  have ni : lastMarks [o, o'] [y, z] = false := not_in h'.1.1.1.1.2 h'.1.1.1.2
  exact tst3 (pe_chain (op_cmp (by have := A.room.un; omega) o) (op_cmp (by have := A.room.un; omega) o') pa pb pc ni) (pt_chain (op_cmp (by have := A.room.un; omega) o) (op_cmp (by have := A.room.un; omega) o') pa pb pc ni) (fun _ _ _ z => by cases z)
theorem bnot_and {op : BoolOp} (h : bnot op = true) : op = .And := by cases op <;> first | rfl | cases h
theorem bnot_or {op : BoolOp} (h : (!(bnot op)) = true) : op = .Or := by cases op <;> first | rfl | cases h
theorem der_and {a b : E} (ha : DerAll nm kk P Tb Gv a) (hb : DerAll nm kk P Tb Gv b) : DerAll nm kk P Tb Gv (.and a b) := fun X Er W sc tl L A => der_no (fun _ => rfl) fun ex h => by
  cases ex <;> first | cases h | skip
  case BoolOp op es p =>
  rcases es with _ | ⟨x, _ | ⟨y, r⟩⟩ <;> first | cases h | skip
  have h' : (bnot op && (mt nm a).e tl sc x && restM .And (isAnd b) ((mt nm b).e tl sc) y p r) = true := h
  rw [Bool.and_eq_true, Bool.and_eq_true] at h'
  have e := bnot_and h'.1.1
  subst e
  have pa := (ha X Er W sc tl L A).e x h'.1.2
  have hr := h'.2
  obtain ⟨q1, q2⟩ : PE X (.BoolOp .And (y :: r) p) (rd P Er Tb Gv b W).v ∧ PW X (.BoolOp .And (y :: r) p) (rd P Er Tb Gv b W).t := by
    cases r with
    | nil =>
      have pb := (hb X Er W sc tl L A).e y hr
      exact ⟨pe_one pb.1, pw_and1 pb.2.1⟩
    | cons z r =>
      simp only [restM, Bool.and_eq_true] at hr
      have pb := (hb X Er W sc tl L A).e _ hr.2
      exact ⟨pb.1, pb.2.2.2 _ _ _ rfl⟩
  exact tst3 (pe_andT pa.1 q1) (PW.pt (pw_and pa.2.1 q2)) (fun _ _ _ _ => pw_and pa.2.1 q2)
theorem der_or {a b : E} (ha : DerAll nm kk P Tb Gv a) (hb : DerAll nm kk P Tb Gv b) : DerAll nm kk P Tb Gv (.or a b) := fun X Er W sc tl L A => der_no (fun _ => rfl) fun ex h => by
  cases ex <;> first | cases h | skip
  case BoolOp op es p =>
  rcases es with _ | ⟨x, _ | ⟨y, r⟩⟩ <;> first | cases h | skip
  have h' : (!(bnot op) && (mt nm a).e tl sc x && restM .Or (isOr b) ((mt nm b).e tl sc) y p r) = true := h
  rw [Bool.and_eq_true, Bool.and_eq_true] at h'
  have e := bnot_or h'.1.1
  subst e
  have pa := (ha X Er W sc tl L A).e x h'.1.2
  have hr := h'.2
  obtain ⟨q1, q2⟩ : PE X (.BoolOp .Or (y :: r) p) (rd P Er Tb Gv b W).v ∧ PW X (.BoolOp .Or (y :: r) p) (rd P Er Tb Gv b W).t := by
    cases r with
    | nil =>
      have pb := (hb X Er W sc tl L A).e y hr
      exact ⟨pe_one pb.1, pw_or1 pb.2.1⟩
    | cons z r =>
      simp only [restM, Bool.and_eq_true] at hr
      have pb := (hb X Er W sc tl L A).e _ hr.2
      exact ⟨pb.1, pb.2.2.2 _ _ _ rfl⟩
  exact tst3 (pe_orT pa.1 q1) (PW.pt (pw_or pa.2.1 q2)) (fun _ _ _ _ => pw_or pa.2.1 q2)
theorem der_not {a : E} (ha : DerAll nm kk P Tb Gv a) : DerAll nm kk P Tb Gv (.not a) := fun X Er W sc tl L A => der_no (fun _ => rfl) fun ex h => by
  cases ex <;> first | cases h | skip
  case UnaryOp o x p =>
  cases o <;> first | cases h | skip
  case Not =>
  have pa := (ha X Er W sc tl L A).e x h
  exact tst3 (pe_notT pa.1) (pt_not pa.2.1) (fun _ _ _ z => by cases z)
theorem der_ite {c a b : E} (hc : DerAll nm kk P Tb Gv c) (ha : DerAll nm kk P Tb Gv a) (hb : DerAll nm kk P Tb Gv b) : DerAll nm kk P Tb Gv (.ite c a b) := fun X Er W sc tl L A => der_no (fun _ => rfl) fun ex h => by
  cases ex <;> first | cases h | skip
  case IfExp x y z p =>
  have h' : ((mt nm c).e tl sc x && (mt nm a).e tl sc y && (mt nm b).e tl sc z) = true := h
  rw [Bool.and_eq_true, Bool.and_eq_true] at h'
  exact tst3 (pe_ifExp ((hc X Er W sc tl L A).e x h'.1.1).2.1 ((ha X Er W sc tl L A).e y h'.1.2).1 ((hb X Er W sc tl L A).e z h'.2).1) pt_no (fun _ _ _ _ => pw_no)
theorem der_tup {a : E} (ha : DerAll nm kk P Tb Gv a) : DerAll nm kk P Tb Gv (.tup a) := fun X Er W sc tl L A => der_no (fun _ => rfl) fun ex h => by
  cases ex <;> first | cases h | skip
  case Tuple es k p => exact val3 (pe_tup ((ha X Er W sc tl L A).a es h))
theorem der_lst {a : E} (ha : DerAll nm kk P Tb Gv a) : DerAll nm kk P Tb Gv (.lst a) := fun X Er W sc tl L A => der_no (fun _ => rfl) fun ex h => by
  cases ex <;> first | cases h | skip
  case List es p => exact val3 (pe_lst ((ha X Er W sc tl L A).a es h))
theorem der_idx {a i : E} (ha : DerAll nm kk P Tb Gv a) (hi : DerAll nm kk P Tb Gv i) : DerAll nm kk P Tb Gv (.idx a i) := fun X Er W sc tl L A => der_no (fun _ => rfl) fun ex h => by
  cases ex <;> first | cases h | skip
  case Subscript x y p =>
  have h' : ((mt nm a).e tl sc x && (mt nm i).e tl sc y) = true := h
  rw [Bool.and_eq_true] at h'
  exact val3 (pe_ix (ix_two (by have := A.room.un; omega)) ((ha X Er W sc tl L A).e x h'.1).1 ((hi X Er W sc tl L A).e y h'.2).1 (nos_of h'.2))
theorem oneArg_eq {ps : Arguments} {v : Str} (h : oneArg ps v = true) : ∃ an pos, ps = ⟨[], [⟨v, an, pos⟩], none, [], [], none, []⟩ := by
  obtain ⟨po, ar, va, ko, kd, kw, df⟩ := ps
  rcases po with _ | ⟨_, _⟩ <;> rcases ar with _ | ⟨a, _ | ⟨_, _⟩⟩ <;> rcases va with _ | _ <;> rcases ko with _ | ⟨_, _⟩ <;> rcases kd with _ | ⟨_, _⟩ <;> rcases kw with _ | _ <;> rcases df with _ | ⟨_, _⟩ <;> first | (cases h; done) | skip
  have e : a.arg = v := of_decide_eq_true h
  obtain ⟨x, an, pos⟩ := a
  have e : x = v := e
  subst e
  exact ⟨an, pos, rfl⟩
theorem srtM_ok {nm : Nm} {tl : Bool} {sc : Scope} {k : Bool} {f : Expr → Bool} {ex : Expr} (h : srtM nm tl sc k f ex = true) :
    (∃ p1 y p2, k = false ∧ ex = .Call (.Name ("sorted" : Str) p1) [y] [] p2 ∧ bltT nm sc "sorted" = true ∧ f y = true) ∨
    ∃ p1 y ps p2 v p3 p4 p5 cx p6 lsc lpos kpos pos, v = ("part" : Str) ∧ k = true ∧ ex = .Call (.Name ("sorted" : Str) p1) [y] [⟨some ("key" : Str), .Lambda ps (.Tuple [.Call (.Name ("len" : Str) p2) [.Name v p3] [] p4, .Name v p5] cx p6) lsc lpos, kpos⟩] pos ∧
      tl = true ∧ nm.gx = true ∧ nm.gq = ("<lambda>" : Str) ∧ oneArg ps v = true ∧ bltT nm sc "sorted" = true ∧ nm.blts.contains ("len" : Str) = true ∧ SK.keySB lsc v = true ∧ (v == ("__debug__" : Str)) = false ∧ f y = true := by
  unfold srtM at h
  split at h
  · simp only [Bool.and_eq_true, decide_eq_true_eq, Bool.not_eq_true'] at h
    obtain ⟨ek, ⟨h1, h2⟩, h3⟩ := h
    subst ek h1
    exact .inl ⟨_, _, _, rfl, rfl, h2, h3⟩
  · simp only [Bool.and_eq_true, decide_eq_true_eq, Bool.not_eq_true'] at h
    obtain ⟨ek, ⟨⟨⟨⟨⟨⟨⟨⟨t1, t2⟩, tq⟩, tx⟩, tk⟩, tl'⟩, tv⟩, tp⟩, ta⟩, ⟨⟨⟨b1, b2⟩, b3⟩, b4⟩, b5⟩ := h
    subst ek tx tk tl' tv
    exact .inr ⟨_, _, _, _, _, _, _, _, _, _, _, _, _, _, tp, rfl, rfl, t1, t2, tq, ta, b1, b2, b3, b4, b5⟩
  · cases h
theorem der_srt {k : Bool} {a : E} (ha : DerAll nm kk P Tb Gv a) : DerAll nm kk P Tb Gv (.srt k a) := fun X Er W sc tl L A => der_no (fun _ => rfl) fun ex h => by
  have h : srtM nm tl sc k ((mt nm a).e tl sc) ex = true := h
  rcases srtM_ok h with ⟨p1, y, p2, ek, e, h2, h3⟩ | ⟨p1, y, ps, p2, v, p3, p4, p5, cx, p6, lsc, lpos, kpos, pos, ep, ek, e, t1, t2, tq, ta, b1, b2, b3, b4, b5⟩
  · subst ek e
    obtain ⟨g1, g2, g3, g4⟩ := bltT_of A.hsc h2
    exact val3 (SK.pe_srt (by have := A.room.un; omega) g1 (L.blt _ g3) ((ha X Er W sc tl L A).e y h3).1 (star_cons (mt_ns h3)))
  · subst ek e ep
    obtain ⟨an, apos, rfl⟩ := oneArg_eq ta
    obtain ⟨g1, g2, g3, g4⟩ := bltT_of A.hsc b1
    obtain ⟨hroom, cc, PP, TB, hcode, hm, hu⟩ := A.gx t1 t2
    rw [tq] at hm hu
    have b2' : ("len" : Str) ∈ nm.blts := by simpa using b2
    exact val3 (SK.pe_srtk hroom g1 (L.blt _ g3) (L.blt _ b2') ((ha X Er W sc tl L A).e y b5).1 (star_cons (mt_ns b5)) TB hcode hm hu rfl (SK.keyS_by b3) b4 fun _ _ _ _ _ _ => rfl)
theorem plainB_of {x : Expr} {n : Str} {env : Env} (h : plainB x = true) : attributeBase x n env (eval x env) = eval x env := by
  cases x <;> first | rfl | cases h
theorem der_cnt {a b : E} (ha : DerAll nm kk P Tb Gv a) (hb : DerAll nm kk P Tb Gv b) : DerAll nm kk P Tb Gv (.cnt a b) := fun X Er W sc tl L A => der_no (fun _ => rfl) fun ex h => by
  cases ex <;> first | cases h | skip
  case Call fe es kw cpos =>
  cases fe <;> first | cases h | skip
  case Attribute x n apos =>
  rcases es with _ | ⟨y, _ | ⟨_, _⟩⟩ <;> first | cases h | skip
  rcases kw with _ | ⟨_, _⟩ <;> first | cases h | skip
  have h' : (decide (n = ("count" : Str)) && plainB x && (apos.endLine == cpos.line) && (mt nm a).e tl sc x && (mt nm b).e tl sc y) = true := h
  rw [Bool.and_eq_true, Bool.and_eq_true, Bool.and_eq_true, Bool.and_eq_true] at h'
  obtain ⟨⟨⟨⟨h1, h2⟩, h3⟩, h4⟩, h5⟩ := h'
  have e1 := of_decide_eq_true h1
  subst e1
  have hs : starEach [y] X.env = [(false, eval y X.env)] := star_cons (mt_ns h5)
  exact val3 (pe_bm PySem.F.plainAttrs_list PySem.F.slot_list_count PySem.F.type_list_count (mt_countD (by have := A.room.un; omega)) ((ha X Er W sc tl L A).e x h4).1 (pa_cons ((hb X Er W sc tl L A).e y h5).1 pa_nil hs) (plainB_of h2) (by rw [hs]; rfl) h3 hs (by rfl))
theorem der_fld {c : String} {f : Str} {a : E} (ha : DerAll nm kk P Tb Gv a) : DerAll nm kk P Tb Gv (.fld c f a) := fun X Er W sc tl L A => der_no (fun _ => rfl) fun ex h => by
  cases ex <;> first | cases h | skip
  case Attribute x n p =>
  have h' : (decide (n = f) && nm.fl.contains (c, f) && plainB x && (mt nm a).e tl sc x) = true := h
  rw [Bool.and_eq_true, Bool.and_eq_true, Bool.and_eq_true] at h'
  obtain ⟨⟨⟨h1, h2⟩, h3⟩, h4⟩ := h'
  have e1 := of_decide_eq_true h1
  subst e1
  obtain ⟨k1, k2⟩ := L.fls c n (by simpa using h2)
  exact val3 (IN.pe_fldC k1 k2 ((ha X Er W sc tl L A).e x h4).1 (plainB_of h3))
theorem few_of {es : List Expr} {env : Env} {pos : Pos} (h : (backTo pos (starEach es env)).any (·.1) = false) (hn : es.length < 20) : methodCallForm (es.length + ([] : List Keyword).length) (backTo pos (starEach es env)) (backToKw pos (keywordEach [] env)) = true := by
  have h1 : (backTo pos (starEach es env)).all (!·.1) = true := by
    rw [List.all_eq_true]
    intro x hx
    have := List.any_eq_false.mp h x hx
    simpa using this
  unfold methodCallForm
  have e : backToKw pos (keywordEach [] env) = [] := rfl
  rw [h1, e]
  simp
  omega
theorem mcall_tree {o : Expr} {m : Str} {apos pos : Pos} {es : List Expr} {env : Env} (hb : attributeBase o m env (eval o env) = eval o env) (h : (backTo pos (starEach es env)).any (·.1) = false) (hn : es.length < 20) (hl : (apos.endLine == pos.line) = true) :
    eval (.Call (.Attribute o m apos) es [] pos) env = (do
      let ov ← eval o env
      standAt apos.atName
      let (f, first) ← holding [ov] (getMethod ov m (do return (← importBound o env).getD true))
      callWith pos f first (backTo pos (starEach es env)) (backToKw pos (keywordEach [] env))) := by
  refine mcall_of hb fun ov => ?_
  unfold methodCall
  rw [few_of h hn]
  unfold calleeOf methodCallPos
  rw [if_pos rfl]
  simp only [hl, Bool.not_true, Bool.false_or, if_true, pure_bind]
theorem der_mcl {c : String} {m : Str} {f : Nat} {o a : E} (ho : DerAll nm kk P Tb Gv o) (ha : DerAll nm kk P Tb Gv a) : DerAll nm kk P Tb Gv (.mcl c m f o a) := fun X Er W sc tl L A => der_no (fun _ => rfl) fun ex h => by
  cases ex <;> first | cases h | skip
  case Call fe es kw p =>
  cases fe <;> first | cases h | skip
  case Attribute x n apos =>
  cases kw <;> first | cases h | skip
  have h' : (decide (n = m) && decide (nm.mth f = some (c, m)) && plainB x && (apos.endLine == p.line) && decide (es.length < 20) && (mt nm o).e tl sc x && (mt nm a).a tl sc es) = true := h
  rw [Bool.and_eq_true, Bool.and_eq_true, Bool.and_eq_true, Bool.and_eq_true, Bool.and_eq_true, Bool.and_eq_true] at h'
  obtain ⟨⟨⟨⟨⟨⟨h1, h2⟩, h3⟩, h4⟩, h5⟩, h6⟩, h7⟩ := h'
  have e1 := of_decide_eq_true h1
  subst e1
  obtain ⟨k1, fa, fd, ps, k, hk, hm, F, hb, _⟩ := L.mts f c n (of_decide_eq_true h2)
  have pa := (ha X Er W sc tl L A).a es h7
  have po := ((ho X Er W sc tl L A).e x h6).1
  obtain ⟨s1, s2⟩ := mtA_star (env := X.env) (pos := p) a tl sc es h7
  have tr := mcall_tree (m := n) (apos := apos) (plainB_of (n := n) (env := X.env) h3) s1 (of_decide_eq_true h5) h4
  have hr := A.room.mono (show k ≤ kk by omega)
  cases es with
  | nil =>
    have e : (rd P Er Tb Gv a W).a = tNil := by
      cases a <;> first | rfl | cases h7
    refine val3 ?_
    show PE X _ (IN.tMethS (clsA X.K c) n (spOf Er Tb (P.F f)) (WE W) (rd P Er Tb Gv o W).v (rd P Er Tb Gv a W).a)
    rw [e]
    exact IN.pe_methS0 po k1 hm F hr hb (fun σ => passAt A.tk σ) tr
  | cons e es =>
    have sc1 : starEach (e :: es) X.env = (false, eval e X.env) :: starEach es X.env := star_cons (s2 e (by simp))
    have s1' := s1
    rw [sc1] at s1'
    have s1' : (false || (backTo p (starEach es X.env)).any (·.1)) = false := s1'
    exact val3 (IN.pe_methS po k1 hm F hr hb (fun σ => passAt A.tk σ) pa sc1 (by simpa using s1') tr)
theorem der_mk {c : String} {f : Nat} {a : E} (ha : DerAll nm kk P Tb Gv a) : DerAll nm kk P Tb Gv (.mk c f a) := fun X Er W sc tl L A => der_no (fun _ => rfl) fun ex h => by
  cases ex <;> first | cases h | skip
  case Call fe es kw p =>
  cases fe <;> first | cases h | skip
  case Name x q =>
  cases kw with
  | cons _ _ => cases es <;> cases h
  | nil =>
  cases es with
  | nil =>
    have h' : (decide (x = Str.ofString c) && decide (nm.mth f = some (c, ("__init__" : Str))) && gl sc x && (mt nm a).a tl sc []) = true := h
    rw [Bool.and_eq_true, Bool.and_eq_true, Bool.and_eq_true] at h'
    obtain ⟨⟨⟨h1, h2⟩, h3⟩, h4⟩ := h'
    have e1 := of_decide_eq_true h1
    subst e1
    obtain ⟨g1, g2⟩ := gl_of A.hsc h3
    obtain ⟨k1, fa, fd, ps, k, hk, hm, F, hb, hi⟩ := L.mts f c _ (of_decide_eq_true h2)
    obtain ⟨hM, hg⟩ := hi rfl
    cases a <;> first | cases h4 | skip
    case refl => exact val3 (IN.pe_makeS0 hM F (A.room.mono hk) g1 hg hb (fun σ => passAt A.tk σ) g2)
  | cons e es =>
  have h' : (decide (x = Str.ofString c) && decide (nm.mth f = some (c, ("__init__" : Str))) && gl sc x && (mt nm a).a tl sc (e :: es)) = true := h
  rw [Bool.and_eq_true, Bool.and_eq_true, Bool.and_eq_true] at h'
  obtain ⟨⟨⟨h1, h2⟩, h3⟩, h4⟩ := h'
  have e1 := of_decide_eq_true h1
  subst e1
  obtain ⟨g1, g2⟩ := gl_of A.hsc h3
  obtain ⟨k1, fa, fd, ps, k, hk, hm, F, hb, hi⟩ := L.mts f c _ (of_decide_eq_true h2)
  obtain ⟨hM, hg⟩ := hi rfl
  have pa := (ha X Er W sc tl L A).a _ h4
  obtain ⟨s1, s2⟩ := mtA_star (env := X.env) (pos := p) a tl sc (e :: es) h4
  have sc1 : starEach (e :: es) X.env = (false, eval e X.env) :: starEach es X.env := star_cons (s2 e (by simp))
  rw [sc1] at s1
  have s1' : (false || (backTo p (starEach es X.env)).any (·.1)) = false := s1
  exact val3 (IN.pe_makeS hM F (A.room.mono hk) g1 hg hb (fun σ => passAt A.tk σ) pa g2 sc1 (by simpa using s1'))
theorem part_of {lo : E} {X : Cx} {Er : Errs X.K P.X} {W : WX} {sc : Scope} {tl : Bool} (hl : Der nm X Er Tb Gv W sc tl lo) {l : Option Expr} (h : partM lo ((mt nm lo).e tl sc) l = true) : PO X l (rd P Er Tb Gv lo W).o := by
  cases l with
  | none =>
    cases lo <;> first | cases h | skip
    case refl => exact po_none
  | some l => exact (hl.e l h).2.2.1
theorem der_slc {a lo hi : E} (ha : DerAll nm kk P Tb Gv a) (hl : DerAll nm kk P Tb Gv lo) (hh : DerAll nm kk P Tb Gv hi) : DerAll nm kk P Tb Gv (.slc a lo hi) := fun X Er W sc tl L A => der_no (fun _ => rfl) fun ex h => by
  cases ex <;> first | cases h | skip
  case Subscript x y p =>
  cases y <;> first | cases h | skip
  case Slice l u s p2 =>
  cases s <;> first | cases h | skip
  have h' : ((mt nm a).e tl sc x && partM lo ((mt nm lo).e tl sc) l && partM hi ((mt nm hi).e tl sc) u) = true := h
  rw [Bool.and_eq_true, Bool.and_eq_true] at h'
  exact val3 (pe_slice sl_all ((ha X Er W sc tl L A).e x h'.1.1).1 (part_of (hl X Er W sc tl L A) h'.1.2) (part_of (hh X Er W sc tl L A) h'.2))
theorem der_call {f : Nat} {a : E} (ha : DerAll nm kk P Tb Gv a) : DerAll nm kk P Tb Gv (.call f a) := fun X Er W sc tl L A => der_no (fun _ => rfl) fun ex h => by
  cases ex <;> first | cases h | skip
  case Call fe es kw p =>
  cases fe <;> first | cases h | skip
  case Name x q =>
  cases kw <;> first | cases h | skip
  have h' : (decide (nm.fn f = some x) && gl sc x && (mt nm a).a tl sc es) = true := h
  rw [Bool.and_eq_true, Bool.and_eq_true] at h'
  obtain ⟨fa, fd, ps, k, hk, hm, hkp, F, hb⟩ := L.fns f x (of_decide_eq_true h'.1.1)
  obtain ⟨g1, g2⟩ := gl_of A.hsc h'.1.2
  have pa := (ha X Er W sc tl L A).a es h'.2
  cases es with
  | nil =>
    have e : (rd P Er Tb Gv a W).a = tNil := by
      cases a <;> first | rfl | cases h'.2
    refine val3 ?_
    show PE X _ (tCallS (spOf Er Tb (P.F f)) (WE W) (rd P Er Tb Gv a W).a)
    rw [e]
    exact pe_callS0 F (A.room.mono hk) g1 hm hkp hb (fun σ => passAt A.tk σ) g2
  | cons e es =>
    obtain ⟨s1, s2⟩ := mtA_star (env := X.env) (pos := p) a tl sc (e :: es) h'.2
    have sc1 : starEach (e :: es) X.env = (false, eval e X.env) :: starEach es X.env := star_cons (s2 e (by simp))
    rw [sc1] at s1
    exact val3 (pe_callS F (A.room.mono hk) g1 hm hkp hb (fun σ => passAt A.tk σ) pa g2 sc1 (by
      have s1' : (false || (backTo p (starEach es X.env)).any (·.1)) = false := s1
      simpa using s1'))
theorem der_blt {b : Blt} {a : E} (ha : DerAll nm kk P Tb Gv a) : DerAll nm kk P Tb Gv (.blt b a) := fun X Er W sc tl L A => der_no (fun _ => rfl) fun ex h => by
  cases ex <;> first | cases h | skip
  case Call fe es kw p =>
  cases fe <;> first | cases h | skip
  case Name x q =>
  cases kw with
  | cons _ _ => cases es <;> cases h
  | nil =>
  cases es <;> first | cases h | skip
  case cons e es =>
  have h' : (decide (bltN b = x) && bltT nm sc x && (mt nm a).a tl sc (e :: es)) = true := h
  rw [Bool.and_eq_true, Bool.and_eq_true] at h'
  have e1 : bltN b = x := of_decide_eq_true h'.1.1
  obtain ⟨g1, g2, g3, g4⟩ := bltT_of A.hsc h'.1.2
  have pa := (ha X Er W sc tl L A).a _ h'.2
  obtain ⟨s1, s2⟩ := mtA_star (env := X.env) (pos := p) a tl sc (e :: es) h'.2
  have sc1 : starEach (e :: es) X.env = (false, eval e X.env) :: starEach es X.env := star_cons (s2 e (by simp))
  rw [sc1] at s1
  have s1' : (false || (backTo p (starEach es X.env)).any (·.1)) = false := s1
  have s3 : (backTo p (starEach es X.env)).any (·.1) = false := by simpa using s1'
  have hbv : bootBuiltins x = some (bltV b) := by rw [← e1]; exact boot_blt b
  have cr := call_blt A.calm (by have := A.room.un; omega) b
  have hm := L.blt _ g3
  refine val3 ?_
  show PE X _ (tCB (rBlt X.K b) (rd P Er Tb Gv a W).a)
  cases b
  case abs => exact pe_callB cr g1 hm hbv pa g4 g2 sc1 s3
  case len => exact pe_callB cr g1 hm hbv pa g4 g2 sc1 s3
  case int => exact pe_callTy cr g1 hm hbv pa g4 g2 sc1 s3
  case tuple => exact pe_callTy cr g1 hm hbv pa g4 g2 sc1 s3
  case list => exact pe_callTy cr g1 hm hbv pa g4 g2 sc1 s3
  case max2 => exact pe_callB cr g1 hm hbv pa g4 g2 sc1 s3
  case min2 => exact pe_callB cr g1 hm hbv pa g4 g2 sc1 s3
  case sum => exact pe_callB cr g1 hm hbv pa g4 g2 sc1 s3
  case max3 => exact pe_callB cr g1 hm hbv pa g4 g2 sc1 s3
  case maxl => exact pe_callB cr g1 hm hbv pa g4 g2 sc1 s3
  case minl => exact pe_callB cr g1 hm hbv pa g4 g2 sc1 s3
  case minr => exact pe_callB cr g1 hm hbv pa g4 g2 sc1 s3
  case sorted => exact pe_callB cr g1 hm hbv pa g4 g2 sc1 s3
  case str => exact pe_callTy cr g1 hm hbv pa g4 g2 sc1 s3
  case isi => exact pe_callB cr g1 hm hbv pa g4 g2 sc1 s3
  case bool => exact pe_callTy cr g1 hm hbv pa g4 g2 sc1 s3
theorem der_nil : DerAll nm kk P Tb Gv .nil := fun X Er W sc tl L A => by
  refine ⟨fun ex h => ?_, fun es h => ?_, fun ex h => ?_⟩
  · cases h
  · cases es with
    | nil => exact pa_nil
    | cons e r => cases h
  · cases h
theorem der_cons {a b : E} (ha : DerAll nm kk P Tb Gv a) (hb : DerAll nm kk P Tb Gv b) : DerAll nm kk P Tb Gv (.cons a b) := fun X Er W sc tl L A => by
  refine ⟨fun ex h => ?_, fun es h => ?_, fun ex h => ?_⟩
  · cases h
  · cases es with
    | nil => cases h
    | cons x r =>
      have h' : ((mt nm a).e tl sc x && (mt nm b).a tl sc r) = true := h
      rw [Bool.and_eq_true] at h'
      exact pa_cons ((ha X Er W sc tl L A).e x h'.1).1 ((hb X Er W sc tl L A).a r h'.2) (star_cons (mt_ns h'.1))
  · have h' : ((mt nm a).e tl sc ex && (mt nm b).a tl sc []) = true := h
    rw [Bool.and_eq_true] at h'
    refine ⟨(rd P Er Tb Gv a W).v, ?_, ((ha X Er W sc tl L A).e ex h'.1).1⟩
    have e : (rd P Er Tb Gv b W).a = tNil := by
      cases b <;> first | rfl | cases h'.2
    show tCons (rd P Er Tb Gv a W).v (rd P Er Tb Gv b W).a = _
    rw [e]
theorem der_np : DerAll nm kk P Tb Gv .np := fun X Er W sc tl L A => by
  refine ⟨fun ex h => ?_, fun es h => ?_, fun ex h => ?_⟩ <;> cases h
theorem der_newc {a : E} (ha : DerAll nm kk P Tb Gv a) : DerAll nm kk P Tb Gv (.newc a) := fun X Er W sc tl L A => der_no (fun _ => rfl) fun ex h =>
  tst3 ((ha X Er W sc tl L A).e ex h).1 pt_no (fun _ _ _ _ => pw_no)
theorem der_scope {a : E} (ha : DerAll nm kk P Tb Gv a) : DerAll nm kk P Tb Gv (.scope a) := fun X Er W sc tl L A => der_no (fun _ => rfl) fun ex h =>
  tst3 ((ha X Er W sc tl L A).e ex h).1 pt_no (fun _ _ _ _ => pw_no)
theorem der_lend {i : Nat} {a : E} (ha : DerAll nm kk P Tb Gv a) : DerAll nm kk P Tb Gv (.lend i a) := fun X Er W sc tl L A => der_no (fun _ => rfl) fun ex h =>
  tst3 ((ha X Er W sc tl L A).e ex h).1 ((ha X Er W sc tl L A).e ex h).2.1 ((ha X Er W sc tl L A).e ex h).2.2.2
theorem der_told {hs : List (Str × Str)} {a : E} (ha : DerAll nm kk P Tb Gv a) : DerAll nm kk P Tb Gv (.told hs a) := fun X Er W sc tl L A => der_no (fun _ => rfl) fun ex h => by
  cases ex <;> first | cases h | skip
  case Call fe es kw p =>
  cases fe <;> first | cases h | skip
  case Name x q =>
  rcases es with _ | ⟨l, _ | ⟨_, _⟩⟩ <;> first | cases h | skip
  · cases l <;> first | cases h | skip
    case Lambda ps body lsc lp =>
    cases kw <;> first | cases h | skip
    have h' : ((tl && nm.lw) && decide (hs = nm.hs) && decide (x = nm.told) && gl sc x && noArgs ps && LamX.lamSB sc lsc && (mt nm a).e false lsc body) = true := h
    rw [Bool.and_eq_true, Bool.and_eq_true, Bool.and_eq_true, Bool.and_eq_true, Bool.and_eq_true, Bool.and_eq_true] at h'
    obtain ⟨⟨⟨⟨⟨⟨h1, h2⟩, h3⟩, h4⟩, h5⟩, h6⟩, h7⟩ := h'
    have e1 : hs = nm.hs := of_decide_eq_true h2
    have e2 : x = nm.told := of_decide_eq_true h3
    subst e1 e2
    rw [Bool.and_eq_true] at h1
    refine val3 (A.told h1.1 h1.2 (fun E => (rd P Er Tb Gv a fun cls d _ H => E cls d H).v) ps body lsc q lp p h5 h6 h4 fun A' outer s H E f c' hr => ?_)
    have L' : Lib P (K := (LamX.lamCx X A' outer s H E lsc f c').K) Er Tb Gv nm kk (LamX.lamCx X A' outer s H E lsc f c').prog (LamX.lamCx X A' outer s H E lsc f c').w (LamX.lamCx X A' outer s H E lsc f c').mg (LamX.lamCx X A' outer s H E lsc f c').base := L
    exact ((ha (LamX.lamCx X A' outer s H E lsc f c') Er (fun cls d _ H => E cls d H) lsc false L' ⟨A.N, A.nd, rfl, rfl, takes_of rfl rfl rfl rfl, hr, (fun z => by cases z), (fun z => by cases z), fun z => by cases z⟩).e body h7).1
  · cases l <;> first | cases h | skip
theorem lc_parts {vs : List Nat} {g : G} {k : IK} {it c e : E} (hi : DerAll nm kk P Tb Gv it) (hc : DerAll nm kk P Tb Gv c) (he : DerAll nm kk P Tb Gv e) {X : Cx} {Er : Errs X.K P.X} {W : WX} {sc : Scope} {tl : Bool} (L : Lib P Er Tb Gv nm kk X.prog X.w X.mg X.base) (A : Amb nm kk Tb Er.xv X sc W tl)
    {elt tg iter : Expr} {ifs : List Expr} {csc : Scope} {pos : Pos} (h : (mt nm (.lc vs g k it c e)).e tl sc (.ListComp elt [⟨tg, iter, ifs, 0⟩] csc pos) = true) :
    PI X tg iter (rI (K := X.K) k (rd P Er Tb Gv it W).a) ∧ BlkOk X.N X.env.scope csc (ownOf nm vs) ∧ (ownOf nm vs).map (·.2) = vs ∧
    (∀ (s : Shared) (H : Hp) (C : Addr) (cl : List (Str × Addr)) (fp : List Addr), PG (X.blk s H csc (compEnvC csc cl C X.env) fp) tg (gK X.K g)) ∧
    (∀ (s : Shared) (H : Hp) (C : Addr) (cl : List (Str × Addr)) (fp : List Addr), PTs (X.blk s H csc (compEnvC csc cl C X.env) fp) ifs (rd P Er Tb Gv c W0).t) ∧
    (∀ (s : Shared) (H : Hp) (C : Addr) (cl : List (Str × Addr)) (fp : List Addr), PE (X.blk s H csc (compEnvC csc cl C X.env) fp) elt (rd P Er Tb Gv e W0).v) := by
  have h' : (blkC nm.N sc csc (ownOf nm vs) && mtG nm csc (relS csc sc) g tg && mtI nm k ((mt nm it).a tl sc) tg sc iter && ifsM c ((mt nm c).e false (relS csc sc)) ifs && (mt nm e).e false (relS csc sc) elt) = true := h
  rw [Bool.and_eq_true, Bool.and_eq_true, Bool.and_eq_true, Bool.and_eq_true] at h'
  obtain ⟨⟨⟨⟨h1, h2⟩, h3⟩, h4⟩, h5⟩ := h'
  have amb : ∀ (s : Shared) (H : Hp) (C : Addr) (cl : List (Str × Addr)) (fp : List Addr), Amb nm kk Tb Er.xv (X.blk s H csc (compEnvC csc cl C X.env) fp) (relS csc sc) W0 false := fun s H C cl fp =>
    ⟨A.N, A.nd, A.calm, by rw [← A.hsc]; rfl, takes0, A.room, (fun z => by cases z), (fun z => by cases z), fun z => by cases z⟩
  have D := hi X Er W sc tl L A
  refine ⟨pi_of A.hsc L.blt D.a D.one h3, by rw [A.N, A.hsc]; exact blkOk_by h1, ?_, fun s H C cl fp => ?_, fun s H C cl fp => ?_, fun s H C cl fp => ?_⟩
  · unfold ownOf
    rw [List.map_map]
    exact List.map_id' vs
  · exact pg_of (X := X.blk s H csc (compEnvC csc cl C X.env) fp) (cs := csc) (fun x h => h) A.calm A.N A.nd (amb s H C cl fp).hsc h2
  · have L' : Lib P (K := (X.blk s H csc (compEnvC csc cl C X.env) fp).K) Er Tb Gv nm kk X.prog X.w X.mg X.base := L
    have Dc := hc (X.blk s H csc (compEnvC csc cl C X.env) fp) Er W0 (relS csc sc) false L' (amb s H C cl fp)
    rcases ifs with _ | ⟨i, _ | ⟨_, _⟩⟩
    · cases c <;> first | cases h4 | skip
      case refl => exact pts_nil
    · exact pts_one (Dc.e i h4).2.1
    · cases h4
  · have L' : Lib P (K := (X.blk s H csc (compEnvC csc cl C X.env) fp).K) Er Tb Gv nm kk X.prog X.w X.mg X.base := L
    exact ((he (X.blk s H csc (compEnvC csc cl C X.env) fp) Er W0 (relS csc sc) false L' (amb s H C cl fp)).e elt h5).1
theorem lc_iter {vs : List Nat} {g : G} {k : IK} {it c e : E} {tl : Bool} {sc : Scope} {elt tg iter : Expr} {ifs : List Expr} {csc : Scope} {pos : Pos} (h : (mt nm (.lc vs g k it c e)).e tl sc (.ListComp elt [⟨tg, iter, ifs, 0⟩] csc pos) = true) : mtI nm k ((mt nm it).a tl sc) tg sc iter = true := by
  have h' : (blkC nm.N sc csc (ownOf nm vs) && mtG nm csc (relS csc sc) g tg && mtI nm k ((mt nm it).a tl sc) tg sc iter && ifsM c ((mt nm c).e false (relS csc sc)) ifs && (mt nm e).e false (relS csc sc) elt) = true := h
  rw [Bool.and_eq_true, Bool.and_eq_true, Bool.and_eq_true, Bool.and_eq_true] at h'
  exact h'.1.1.2
theorem lc_form {vs : List Nat} {g : G} {k : IK} {it c e : E} {tl : Bool} {sc : Scope} {ex : Expr} (h : (mt nm (.lc vs g k it c e)).e tl sc ex = true) : ∃ elt tg iter ifs csc pos, ex = .ListComp elt [⟨tg, iter, ifs, 0⟩] csc pos := by
  simp only [mt, Mt.ex] at h
  split at h
  · exact ⟨_, _, _, _, _, _, rfl⟩
  · cases h
theorem der_lc {vs : List Nat} {g : G} {k : IK} {it c e : E} (hi : DerAll nm kk P Tb Gv it) (hc : DerAll nm kk P Tb Gv c) (he : DerAll nm kk P Tb Gv e) : DerAll nm kk P Tb Gv (.lc vs g k it c e) := fun X Er W sc tl L A => der_no (fun _ => rfl) fun ex h => by
  obtain ⟨elt, tg, iter, ifs, csc, p, e1⟩ := lc_form h
  subst e1
  obtain ⟨q1, q2, q3, q4, q5, q6⟩ := lc_parts hi hc he L A h
  have := pe_lc (pos := p) A.calm (by rw [A.N]; exact A.nd) q1 q2 q4 q5 q6 (fold_of (lc_iter h))
  rw [q3] at this
  exact val3 this
theorem uni_form {vs : List Nat} {g : G} {k : IK} {it c : E} {vs1 : List Nat} {g1 : G} {k1 : IK} {it1 c1 e : E} {tl : Bool} {sc : Scope} {ex : Expr} (h : (mt nm (.uni vs g k it c vs1 g1 k1 it1 c1 e)).e tl sc ex = true) : ∃ kx b kn p1 tg iter ifs tg1 iter1 ifs1 csc pos, ex = .DictComp kx (.Constant (.bool b) kn p1) [⟨tg, iter, ifs, 0⟩, ⟨tg1, iter1, ifs1, 0⟩] csc pos := by
  simp only [mt, Mt.ex] at h
  split at h
  · exact ⟨_, _, _, _, _, _, _, _, _, _, _, _, rfl⟩
  · cases h
theorem uni_parts {vs : List Nat} {g : G} {k : IK} {it c : E} {vs1 : List Nat} {g1 : G} {k1 : IK} {it1 c1 e : E} (hi : DerAll nm kk P Tb Gv it) (hc : DerAll nm kk P Tb Gv c) (hi1 : DerAll nm kk P Tb Gv it1) (hc1 : DerAll nm kk P Tb Gv c1) (he : DerAll nm kk P Tb Gv e) {X : Cx} {Er : Errs X.K P.X} {W : WX} {sc : Scope} {tl : Bool} (L : Lib P Er Tb Gv nm kk X.prog X.w X.mg X.base) (A : Amb nm kk Tb Er.xv X sc W tl)
    {kx tg iter tg1 iter1 : Expr} {ifs ifs1 : List Expr} {csc : Scope} {pos p1 : Pos} {b : Bool} {kn : Nat} (h : (mt nm (.uni vs g k it c vs1 g1 k1 it1 c1 e)).e tl sc (.DictComp kx (.Constant (.bool b) kn p1) [⟨tg, iter, ifs, 0⟩, ⟨tg1, iter1, ifs1, 0⟩] csc pos) = true) :
    b = true ∧ PI X tg iter (rI (K := X.K) k (rd P Er Tb Gv it W).a) ∧ BlkOk X.N X.env.scope csc (ownOf nm vs) ∧ (ownOf nm vs).map (·.2) = vs ∧ (∀ i ∈ vs1, i ∈ (ownOf nm vs).map (·.2)) ∧
    (∀ (s : Shared) (H : Hp) (C : Addr) (cl : List (Str × Addr)) (fp : List Addr), PG (X.blk s H csc (compEnvC csc cl C X.env) fp) tg (gK X.K g)) ∧
    (∀ (s : Shared) (H : Hp) (C : Addr) (cl : List (Str × Addr)) (fp : List Addr), PTs (X.blk s H csc (compEnvC csc cl C X.env) fp) ifs (rd P Er Tb Gv c W0).t) ∧
    (∀ (s : Shared) (H : Hp) (C : Addr) (cl : List (Str × Addr)) (fp : List Addr), PE (X.blk s H csc (compEnvC csc cl C X.env) fp) kx (rd P Er Tb Gv e W0).v) ∧
    (∀ (s : Shared) (H : Hp) (C : Addr) (cl : List (Str × Addr)) (fp : List Addr), PI (X.blk s H csc (compEnvC csc cl C X.env) fp) tg1 iter1 (rI (K := X.K) k1 (rd P Er Tb Gv it1 W0).a)) ∧
    (∀ (s : Shared) (H : Hp) (C : Addr) (cl : List (Str × Addr)) (fp : List Addr), PG (X.blk s H csc (compEnvC csc cl C X.env) fp) tg1 (gK X.K g1)) ∧
    (∀ (s : Shared) (H : Hp) (C : Addr) (cl : List (Str × Addr)) (fp : List Addr), PTs (X.blk s H csc (compEnvC csc cl C X.env) fp) ifs1 (rd P Er Tb Gv c1 W0).t) ∧
    (∀ x, foldedSetIterable iter X.env x = pure x) ∧ (∀ env x, foldedSetIterable iter1 env x = pure x) := by
  have h' : (b && blkC nm.N sc csc (ownOf nm vs) && vs1.all (fun i => vs.contains i) && mtG nm csc (relS csc sc) g tg && mtI nm k ((mt nm it).a tl sc) tg sc iter &&
        ifsM c ((mt nm c).e false (relS csc sc)) ifs && mtG nm csc (relS csc sc) g1 tg1 && mtI nm k1 ((mt nm it1).a false (relS csc sc)) tg1 (relS csc sc) iter1 &&
        ifsM c1 ((mt nm c1).e false (relS csc sc)) ifs1 && (mt nm e).e false (relS csc sc) kx) = true := h
  simp only [Bool.and_eq_true] at h'
  obtain ⟨⟨⟨⟨⟨⟨⟨⟨⟨h0, h1⟩, hv⟩, h2⟩, h3⟩, h4⟩, h5⟩, h6⟩, h7⟩, h8⟩ := h'
  have amb : ∀ (s : Shared) (H : Hp) (C : Addr) (cl : List (Str × Addr)) (fp : List Addr), Amb nm kk Tb Er.xv (X.blk s H csc (compEnvC csc cl C X.env) fp) (relS csc sc) W0 false := fun s H C cl fp =>
    ⟨A.N, A.nd, A.calm, by rw [← A.hsc]; rfl, takes0, A.room, (fun z => by cases z), (fun z => by cases z), fun z => by cases z⟩
  have ev : (ownOf nm vs).map (·.2) = vs := by
    unfold ownOf
    rw [List.map_map]
    exact List.map_id' vs
  have D := hi X Er W sc tl L A
  have tst : ∀ {c : E} {ifs : List Expr}, DerAll nm kk P Tb Gv c → ifsM c ((mt nm c).e false (relS csc sc)) ifs = true → ∀ (s : Shared) (H : Hp) (C : Addr) (cl : List (Str × Addr)) (fp : List Addr), PTs (X.blk s H csc (compEnvC csc cl C X.env) fp) ifs (rd P Er Tb Gv c W0).t := fun {c ifs} hc h4 s H C cl fp => by
    have L' : Lib P (K := (X.blk s H csc (compEnvC csc cl C X.env) fp).K) Er Tb Gv nm kk X.prog X.w X.mg X.base := L
    have Dc := hc (X.blk s H csc (compEnvC csc cl C X.env) fp) Er W0 (relS csc sc) false L' (amb s H C cl fp)
    rcases ifs with _ | ⟨i, _ | ⟨_, _⟩⟩
    · cases c <;> first | cases h4 | skip
      case refl => exact pts_nil
    · exact pts_one (Dc.e i h4).2.1
    · cases h4
  refine ⟨h0, pi_of A.hsc L.blt D.a D.one h3, by rw [A.N, A.hsc]; exact blkOk_by h1, ev, fun i hi => ?_, fun s H C cl fp => ?_, tst hc h4, fun s H C cl fp => ?_, fun s H C cl fp => ?_, fun s H C cl fp => ?_, tst hc1 h7, fold_of h3, fun env => fold_of h6⟩
  · rw [ev]
    simpa using List.all_eq_true.mp hv i hi
  · exact pg_of (X := X.blk s H csc (compEnvC csc cl C X.env) fp) (cs := csc) (fun x h => h) A.calm A.N A.nd (amb s H C cl fp).hsc h2
  · have L' : Lib P (K := (X.blk s H csc (compEnvC csc cl C X.env) fp).K) Er Tb Gv nm kk X.prog X.w X.mg X.base := L
    exact ((he (X.blk s H csc (compEnvC csc cl C X.env) fp) Er W0 (relS csc sc) false L' (amb s H C cl fp)).e kx h8).1
  · have L' : Lib P (K := (X.blk s H csc (compEnvC csc cl C X.env) fp).K) Er Tb Gv nm kk X.prog X.w X.mg X.base := L
    have D1 := hi1 (X.blk s H csc (compEnvC csc cl C X.env) fp) Er W0 (relS csc sc) false L' (amb s H C cl fp)
    exact pi_of (X := X.blk s H csc (compEnvC csc cl C X.env) fp) (amb s H C cl fp).hsc L.blt D1.a D1.one h6
  · exact pg_of (X := X.blk s H csc (compEnvC csc cl C X.env) fp) (cs := csc) (fun x h => h) A.calm A.N A.nd (amb s H C cl fp).hsc h5
theorem der_uni {vs : List Nat} {g : G} {k : IK} {it c : E} {vs1 : List Nat} {g1 : G} {k1 : IK} {it1 c1 e : E} (hi : DerAll nm kk P Tb Gv it) (hc : DerAll nm kk P Tb Gv c) (hi1 : DerAll nm kk P Tb Gv it1) (hc1 : DerAll nm kk P Tb Gv c1) (he : DerAll nm kk P Tb Gv e) : DerAll nm kk P Tb Gv (.uni vs g k it c vs1 g1 k1 it1 c1 e) := fun X Er W sc tl L A => der_no (fun _ => rfl) fun ex h => by
  obtain ⟨kx, b, kn, p1, tg, iter, ifs, tg1, iter1, ifs1, csc, pos, e1⟩ := uni_form h
  subst e1
  obtain ⟨q0, q1, q2, q3, q4, q5, q6, q7, q8, q9, q10, q11, q12⟩ := uni_parts hi hc hi1 hc1 he L A h
  subst q0
  have := DW2.pe_dc2 (pos := pos) (vx := .Constant (.bool true) kn p1) (tv := tC (.bl true)) A.calm (by rw [A.N]; exact A.nd) q1 q2 q4 q5 q6 q7 (fun s H C cl fp => pe_bl) q8 q9 q10 q11 q12
  rw [q3] at this
  exact val3 this
theorem gx_form {b : Bool} {vs : List Nat} {g : G} {k : IK} {it c e : E} {tl : Bool} {sc : Scope} {ex : Expr} (h : (mt nm (.gx b vs g k it c e)).e tl sc ex = true) : ∃ x p1 elt tg iter ifs csc gpos pos, ex = .Call (.Name x p1) [.GeneratorExp elt [⟨tg, iter, ifs, 0⟩] csc gpos] [] pos := by
  simp only [mt, Mt.ex] at h
  split at h
  · exact ⟨_, _, _, _, _, _, _, _, _, rfl⟩
  · cases h
theorem gsm_form {vs : List Nat} {g : G} {k : IK} {it c e : E} {tl : Bool} {sc : Scope} {ex : Expr} (h : (mt nm (.gsm vs g k it c e)).e tl sc ex = true) : ∃ x p1 elt tg iter ifs csc gpos pos, ex = .Call (.Name x p1) [.GeneratorExp elt [⟨tg, iter, ifs, 0⟩] csc gpos] [] pos := by
  simp only [mt, Mt.ex] at h
  split at h
  · exact ⟨_, _, _, _, _, _, _, _, _, rfl⟩
  · cases h
theorem gxS_by {X : Cx} {csc : Scope} {own : List (Str × Nat)} (hb : BlkOk X.N X.env.scope csc own) (h : gxSB csc = true) : GX.GxS X csc own := by
  unfold gxSB at h
  simp only [Bool.and_eq_true, Bool.not_eq_true', List.all_eq_true, decide_eq_true_eq, decide_eq_false_iff_not] at h
  exact ⟨hb, h.1.1, h.1.2, h.2⟩
theorem der_gx {b : Bool} {vs : List Nat} {g : G} {k : IK} {it c e : E} (hi : DerAll nm kk P Tb Gv it) (hc : DerAll nm kk P Tb Gv c) (he : DerAll nm kk P Tb Gv e) : DerAll nm kk P Tb Gv (.gx b vs g k it c e) := fun X Er W sc tl L A => der_no (fun _ => rfl) fun ex h => by
  obtain ⟨x, p1, elt, tg, iter, ifs, csc, gpos, pos, e1⟩ := gx_form h
  subst e1
  have h' : ((tl && nm.gx && decide (nm.gq = ("<genexpr>" : Str)) && decide (x = GX.gxName b) && bltT nm sc x && notList iter) && (blkC nm.N sc csc (ownOf nm vs) && gxSB csc && mtG nm csc csc g tg && mtI nm k ((mt nm it).a tl sc) tg sc iter &&
        ifsM c ((mt nm c).e false csc) ifs && (mt nm e).e false csc elt)) = true := h
  rw [Bool.and_eq_true] at h'
  obtain ⟨h1, h2⟩ := h'
  rw [Bool.and_eq_true, Bool.and_eq_true, Bool.and_eq_true, Bool.and_eq_true, Bool.and_eq_true] at h1
  obtain ⟨⟨⟨⟨⟨t1, t2⟩, tq⟩, t3⟩, t4⟩, t5⟩ := h1
  have eq : nm.gq = ("<genexpr>" : Str) := of_decide_eq_true tq
  rw [Bool.and_eq_true, Bool.and_eq_true, Bool.and_eq_true, Bool.and_eq_true, Bool.and_eq_true] at h2
  obtain ⟨⟨⟨⟨⟨b1, b2⟩, b3⟩, b4⟩, b5⟩, b6⟩ := h2
  have ex' : x = GX.gxName b := of_decide_eq_true t3
  subst ex'
  obtain ⟨g1, g2, g3, g4⟩ := bltT_of A.hsc t4
  obtain ⟨hroom, cc, PP, TB, hcode, hm, hu⟩ := A.gx t1 t2
  rw [eq] at hm hu
  have D := hi X Er W sc tl L A
  have S := gxS_by (X := X) (csc := csc) (own := ownOf nm vs) (by rw [A.N, A.hsc]; exact blkOk_by b1) b2
  have ev : (ownOf nm vs).map (·.2) = vs := by
    unfold ownOf
    rw [List.map_map]
    exact List.map_id' vs
  have amb : ∀ (Ar : Around) (s : Shared) (H : Hp) (C : Addr) (code : Value) (fp : List Addr), Room kk Ar → Amb nm kk Tb Er.xv (GX.gCx X Ar s H (GX.gEnv X csc C code) fp) csc W0 false := fun Ar s H C code fp hr =>
    ⟨A.N, A.nd, rfl, rfl, takes0, hr, (fun z => by cases z), (fun z => by cases z), fun z => by cases z⟩
  have nc : ∀ y : Str, (csc.names.lookup y == some NameKind.cell) = true → False := fun y hy => S.cell _ (PySem.mem_of_lookup (by simpa using hy : csc.names.lookup y = some NameKind.cell)) rfl
  have gf : ∀ v, genFold iter X.env v = pure v := fun v => by
    have := fold_of (env := X.env) b4 v
    unfold genFold
    cases iter <;> first | exact this | cases t5
  have := GX.pe_gx (pos := pos) (p := p1) (gpos := gpos) (T := Tb) (k := kk) (g := gK X.K g) (tt := (rd P Er Tb Gv c W0).t) (te := (rd P Er Tb Gv e W0).v) (ifs := ifs) g1 (L.blt _ g3) (by rw [A.N]; exact A.nd) hroom TB hcode S hm hu (pi_of A.hsc L.blt D.a D.one b4) gf
    (fun Ar s H C code fp => pg_of (X := GX.gCx X Ar s H (GX.gEnv X csc C code) fp) (cs := csc) (fun y hy => (nc y hy).elim) rfl A.N A.nd rfl b3)
    (fun Ar s H C code fp hr => by
      have L' : Lib P (K := (GX.gCx X Ar s H (GX.gEnv X csc C code) fp).K) Er Tb Gv nm kk X.prog X.w X.mg X.base := L
      have Dc := hc (GX.gCx X Ar s H (GX.gEnv X csc C code) fp) Er W0 csc false L' (amb Ar s H C code fp hr)
      rcases ifs with _ | ⟨i, _ | ⟨_, _⟩⟩
      · cases c <;> first | cases b5 | skip
        case refl => exact pts_nil
      · exact pts_one (Dc.e i b5).2.1
      · cases b5)
    (fun Ar s H C code fp hr => by
      have L' : Lib P (K := (GX.gCx X Ar s H (GX.gEnv X csc C code) fp).K) Er Tb Gv nm kk X.prog X.w X.mg X.base := L
      exact ((he (GX.gCx X Ar s H (GX.gEnv X csc C code) fp) Er W0 csc false L' (amb Ar s H C code fp hr)).e elt b6).1)
  rw [ev] at this
  exact val3 this
theorem der_gsm {vs : List Nat} {g : G} {k : IK} {it c e : E} (hi : DerAll nm kk P Tb Gv it) (hc : DerAll nm kk P Tb Gv c) (he : DerAll nm kk P Tb Gv e) : DerAll nm kk P Tb Gv (.gsm vs g k it c e) := fun X Er W sc tl L A => der_no (fun _ => rfl) fun ex h => by
  obtain ⟨x, p1, elt, tg, iter, ifs, csc, gpos, pos, e1⟩ := gsm_form h
  subst e1
  have h' : ((tl && nm.gx && decide (nm.gq = ("<genexpr>" : Str)) && decide (x = ("sum" : Str)) && bltT nm sc x && notList iter) && (blkC nm.N sc csc (ownOf nm vs) && gxSB csc && mtG nm csc csc g tg && mtI nm k ((mt nm it).a tl sc) tg sc iter &&
        ifsM c ((mt nm c).e false csc) ifs && (mt nm e).e false csc elt)) = true := h
  rw [Bool.and_eq_true] at h'
  obtain ⟨h1, h2⟩ := h'
  rw [Bool.and_eq_true, Bool.and_eq_true, Bool.and_eq_true, Bool.and_eq_true, Bool.and_eq_true] at h1
  obtain ⟨⟨⟨⟨⟨t1, t2⟩, tq⟩, t3⟩, t4⟩, t5⟩ := h1
  have eq : nm.gq = ("<genexpr>" : Str) := of_decide_eq_true tq
  rw [Bool.and_eq_true, Bool.and_eq_true, Bool.and_eq_true, Bool.and_eq_true, Bool.and_eq_true] at h2
  obtain ⟨⟨⟨⟨⟨b1, b2⟩, b3⟩, b4⟩, b5⟩, b6⟩ := h2
  have ex' : x = ("sum" : Str) := of_decide_eq_true t3
  subst ex'
  obtain ⟨g1, g2, g3, g4⟩ := bltT_of A.hsc t4
  obtain ⟨hroom, cc, PP, TB, hcode, hm, hu⟩ := A.gx t1 t2
  rw [eq] at hm hu
  have D := hi X Er W sc tl L A
  have S := gxS_by (X := X) (csc := csc) (own := ownOf nm vs) (by rw [A.N, A.hsc]; exact blkOk_by b1) b2
  have ev : (ownOf nm vs).map (·.2) = vs := by
    unfold ownOf
    rw [List.map_map]
    exact List.map_id' vs
  have amb : ∀ (Ar : Around) (s : Shared) (H : Hp) (C : Addr) (code : Value) (fp : List Addr), Room kk Ar → Amb nm kk Tb Er.xv (GX.gCx X Ar s H (GX.gEnv X csc C code) fp) csc W0 false := fun Ar s H C code fp hr =>
    ⟨A.N, A.nd, rfl, rfl, takes0, hr, (fun z => by cases z), (fun z => by cases z), fun z => by cases z⟩
  have nc : ∀ y : Str, (csc.names.lookup y == some NameKind.cell) = true → False := fun y hy => S.cell _ (PySem.mem_of_lookup (by simpa using hy : csc.names.lookup y = some NameKind.cell)) rfl
  have gf : ∀ v, genFold iter X.env v = pure v := fun v => by
    have := fold_of (env := X.env) b4 v
    unfold genFold
    cases iter <;> first | exact this | cases t5
  have := GU.pe_gu (pos := pos) (p := p1) (gpos := gpos) (T := Tb) (k := kk) (g := gK X.K g) (tt := (rd P Er Tb Gv c W0).t) (te := (rd P Er Tb Gv e W0).v) (ifs := ifs) g1 (L.blt _ g3) (by rw [A.N]; exact A.nd) hroom TB hcode S hm hu (pi_of A.hsc L.blt D.a D.one b4) gf
    (fun Ar s H C code fp => pg_of (X := GX.gCx X Ar s H (GX.gEnv X csc C code) fp) (cs := csc) (fun y hy => (nc y hy).elim) rfl A.N A.nd rfl b3)
    (fun Ar s H C code fp hr => by
      have L' : Lib P (K := (GX.gCx X Ar s H (GX.gEnv X csc C code) fp).K) Er Tb Gv nm kk X.prog X.w X.mg X.base := L
      have Dc := hc (GX.gCx X Ar s H (GX.gEnv X csc C code) fp) Er W0 csc false L' (amb Ar s H C code fp hr)
      rcases ifs with _ | ⟨i, _ | ⟨_, _⟩⟩
      · cases c <;> first | cases b5 | skip
        case refl => exact pts_nil
      · exact pts_one (Dc.e i b5).2.1
      · cases b5)
    (fun Ar s H C code fp hr => by
      have L' : Lib P (K := (GX.gCx X Ar s H (GX.gEnv X csc C code) fp).K) Er Tb Gv nm kk X.prog X.w X.mg X.base := L
      exact ((he (GX.gCx X Ar s H (GX.gEnv X csc C code) fp) Er W0 csc false L' (amb Ar s H C code fp hr)).e elt b6).1)
  rw [ev] at this
  exact val3 this
theorem der_ixm {a b : E} (ha : DerAll nm kk P Tb Gv a) (hb : DerAll nm kk P Tb Gv b) : DerAll nm kk P Tb Gv (.ixm a b) := fun X Er W sc tl L A => der_no (fun _ => rfl) fun ex h => by
  cases ex <;> first | cases h | skip
  case Call fe es kw cpos =>
  cases fe <;> first | cases h | skip
  case Attribute x n apos =>
  rcases es with _ | ⟨y, _ | ⟨_, _⟩⟩ <;> first | cases h | skip
  rcases kw with _ | ⟨_, _⟩ <;> first | cases h | skip
  have h' : (decide (n = ("index" : Str)) && plainB x && (apos.endLine == cpos.line) && (mt nm a).e tl sc x && (mt nm b).e tl sc y) = true := h
  rw [Bool.and_eq_true, Bool.and_eq_true, Bool.and_eq_true, Bool.and_eq_true] at h'
  obtain ⟨⟨⟨⟨h1, h2⟩, h3⟩, h4⟩, h5⟩ := h'
  have e1 := of_decide_eq_true h1
  subst e1
  have hs : starEach [y] X.env = [(false, eval y X.env)] := star_cons (mt_ns h5)
  exact val3 (pe_bm PySem.F.plainAttrs_list PySem.F.slot_list_index PySem.F.type_list_index (mt_indexD (by have := A.room.un; omega)) ((ha X Er W sc tl L A).e x h4).1 (pa_cons ((hb X Er W sc tl L A).e y h5).1 pa_nil hs) (plainB_of h2) (by rw [hs]; rfl) h3 hs (by rfl))
theorem der_lrng {a : E} (ha : DerAll nm kk P Tb Gv a) : DerAll nm kk P Tb Gv (.lrng a) := fun X Er W sc tl L A => der_no (fun _ => rfl) fun ex h => by
  simp only [mt, Mt.ex] at h
  split at h
  · rename_i x p0 y p1 e p2 p3
    rw [Bool.and_eq_true, Bool.and_eq_true, Bool.and_eq_true, Bool.and_eq_true] at h
    obtain ⟨⟨⟨⟨h1, h2⟩, h3⟩, h4⟩, h5⟩ := h
    have e1 := of_decide_eq_true h1
    have e2 := of_decide_eq_true h3
    subst e1 e2
    obtain ⟨g1, g2, g3, g4⟩ := bltT_of A.hsc h2
    obtain ⟨k1, k2, k3, k4⟩ := bltT_of A.hsc h4
    exact val3 (pe_listRg A.calm g1 (L.blt _ g3) (prg_1 k1 (L.blt _ k3) ((ha X Er W sc tl L A).e e h5).1 (star_cons (mt_ns h5))))
  · cases h
theorem der_dnew : DerAll nm kk P Tb Gv .dnew := fun X Er W sc tl L A => der_no (fun _ => rfl) fun ex h => by
  simp only [mt, Mt.ex] at h
  split at h
  · exact tst3 DM.pe_newI pt_no (fun _ _ _ z => by cases z)
  · cases h
theorem der_din {n : Bool} {a d : E} (ha : DerAll nm kk P Tb Gv a) (hd : DerAll nm kk P Tb Gv d) : DerAll nm kk P Tb Gv (.din n a d) := fun X Er W sc tl L A => der_no (fun _ => rfl) fun ex h => by
  cases ex <;> first | cases h | skip
  case Compare x ops cs q =>
  rcases ops with _ | ⟨p, _ | ⟨_, _⟩⟩ <;> first | cases h | skip
  rcases cs with _ | ⟨y, _ | ⟨_, _⟩⟩ <;> first | cases h | skip
  have h' : (decide (p = if n then .NotIn else .In) && (mt nm a).e tl sc x && (mt nm d).e tl sc y) = true := h
  rw [Bool.and_eq_true, Bool.and_eq_true] at h'
  have e : p = if n then .NotIn else .In := of_decide_eq_true h'.1.1
  subst e
  have pa := ((ha X Er W sc tl L A).e x h'.1.2).1
  have pb := ((hd X Er W sc tl L A).e y h'.2).1
  have ni : behindInMarks (if n then .NotIn else .In) y = false := by
    cases y <;> first | rfl | (cases n <;> rfl) | skip
    case Set l k p => rw [mt_set] at h'; exact absurd h'.2 (by decide)
  have pc := DM.pc_inI (n := n) (X := X) (by have := A.room.un; omega) pa pb
  exact tst3 (pe_cmp pc ni) (pt_cmp pc ni) (fun _ _ _ z => by cases z)
theorem der_dget {a d : E} (hd : DerAll nm kk P Tb Gv d) (ha : DerAll nm kk P Tb Gv a) : DerAll nm kk P Tb Gv (.dget d a) := fun X Er W sc tl L A => der_no (fun _ => rfl) fun ex h => by
  cases ex <;> first | cases h | skip
  case Subscript x y p =>
  have h' : ((mt nm d).e tl sc x && (mt nm a).e tl sc y) = true := h
  rw [Bool.and_eq_true] at h'
  exact tst3 (DM.pe_getI (by have := A.room.un; omega) ((hd X Er W sc tl L A).e x h'.1).1 ((ha X Er W sc tl L A).e y h'.2).1 (nosl_of h'.2)) pt_no (fun _ _ _ z => by cases z)
theorem m2_of {X : Cx} {x y z : Expr} {n : Str} {apos cpos : Pos} (h2 : plainB x = true) (h3 : (apos.endLine == cpos.line) = true) (hs : starEach [y, z] X.env = [(false, eval y X.env), (false, eval z X.env)]) : M2 X x n apos y z cpos :=
  ⟨plainB_of h2, by rw [hs]; rfl, h3, by rw [hs]; rfl⟩
theorem der_dgeto {a b d : E} (hd : DerAll nm kk P Tb Gv d) (ha : DerAll nm kk P Tb Gv a) (hb : DerAll nm kk P Tb Gv b) : DerAll nm kk P Tb Gv (.dgeto d a b) := fun X Er W sc tl L A => der_no (fun _ => rfl) fun ex h => by
  simp only [mt, Mt.ex] at h
  split at h
  · rename_i x n apos y z cpos
    rw [Bool.and_eq_true, Bool.and_eq_true, Bool.and_eq_true, Bool.and_eq_true, Bool.and_eq_true] at h
    obtain ⟨⟨⟨⟨⟨h1, h2⟩, h3⟩, h4⟩, h5⟩, h6⟩ := h
    have e1 := of_decide_eq_true h1
    subst e1
    have hz : starEach [z] X.env = [(false, eval z X.env)] := star_cons (mt_ns h6)
    have hs : starEach [y, z] X.env = [(false, eval y X.env), (false, eval z X.env)] := by rw [star_cons (mt_ns h5), hz]
    exact tst3 (DM.pe_getOI (by have := A.room.un; omega) ((hd X Er W sc tl L A).e x h4).1 ((ha X Er W sc tl L A).e y h5).1 ((hb X Er W sc tl L A).e z h6).1 (m2_of h2 h3 hs)) pt_no (fun _ _ _ z => by cases z)
  · cases h
theorem der_tab1 {s : Str} {i : Nat} : DerAll nm kk P Tb Gv (.tab1 s i) := fun X Er W sc tl L A => der_no (fun _ => rfl) fun ex h => by
  simp only [mt, Mt.ex] at h
  split at h
  · rename_i t _ _ x _ _
    rw [Bool.and_eq_true, Bool.and_eq_true, Bool.and_eq_true, Bool.and_eq_true, Bool.not_eq_true', Bool.not_eq_true'] at h
    obtain ⟨⟨⟨⟨h0, h1⟩, h2⟩, h3⟩, h4⟩ := h
    have e0 := of_decide_eq_true h0
    subst e0
    exact val3 (pe_disp (pps_cons pe_str (pe_var (isN_ A.N h1) (vis_of A.hsc h2) h3 h4) pps_nil) rfl rfl (fun z => by cases z) (by simp))
  · cases h
def FA {K : PySem.W.Frag} {P : Par} (Er : Errs K P.X) (Tb : List (Addr × Str)) (kk : Nat) (prog : Program) (w : World) (mg : Str → Option Value) (base : Heap) (f : Nat) (fa : Addr) : Prop :=
  ∃ fd ps k, k ≤ kk ∧ PySem.W.keepIn K (.ref fa) = true ∧ FnOk prog w K mg base (L2.CX prog w) k fa fd ps (spOf Er Tb (P.F f)) ∧ Binds K fd ps []
theorem sel_merge (s : Str) : ∀ (l : List (Str × Addr)) (acc : List (Key × V)), valV (mergeK acc (l.map fun p => ((Sum.inr p.1 : Key), V.ref p.2))) (Sum.inr s) = (selGet (l.map fun p => (p.1, V.ref p.2)) s (valV acc (Sum.inr s)))
  | [], acc => rfl
  | p :: l, acc => by
    show valV (mergeK (putK acc (Sum.inr p.1) (V.ref p.2)) (l.map fun p => ((Sum.inr p.1 : Key), V.ref p.2))) (Sum.inr s) = selGet (l.map fun p => (p.1, V.ref p.2)) s (if s = p.1 then some (V.ref p.2) else valV acc (Sum.inr s))
    rw [sel_merge s l, valV_put]
    congr 1
    by_cases e : s = p.1
    · rw [if_pos e, if_pos (by rw [e])]
    · rw [if_neg e, if_neg fun z => e (Sum.inr.inj z)]
theorem sel_pairs {σ : L2.St} {Q : List (V × V) → Hp → Prop} {H : Hp} : ∀ l : List (Str × Addr), Q (l.map fun p => (V.str p.1, V.ref p.2)) H → tPairs (l.map fun p => (tC (V.str p.1), tC (V.ref p.2))) σ H Q
  | [], h => h
  | p :: l, h => sel_pairs (Q := fun ps H3 => Q ((V.str p.1, V.ref p.2) :: ps) H3) l h
theorem sel_of {X : Cx} {Er : Errs X.K P.X} {sc : Scope} {pos : Pos} (L : Lib P Er Tb Gv nm kk X.prog X.w X.mg X.base) (hs : X.env.scope = sc) : ∀ (fs : List (Str × Nat)) (ks : List (Option Expr)) (vs : List Expr), selB nm sc fs ks vs = true →
    ∃ l : List (Str × Addr), l.length = fs.length ∧ ks.length = fs.length ∧ vs.length = fs.length ∧ ks.all (·.isSome) = true ∧ PPs X pos ks vs (l.map fun p => (tC (V.str p.1), tC (V.ref p.2))) ∧
      ∀ (s : Str) (r : Option Nat) (r' : Option V), (∀ f, r = some f → ∃ fa, r' = some (V.ref fa) ∧ FA Er Tb kk X.prog X.w X.mg X.base f fa) → ∀ f, selGet fs s r = some f → ∃ fa, selGet (l.map fun p => (p.1, V.ref p.2)) s r' = some (V.ref fa) ∧ FA Er Tb kk X.prog X.w X.mg X.base f fa
  | [], [], [], _ => ⟨[], rfl, rfl, rfl, rfl, pps_nil, fun s r r' h f e => h f e⟩
  | [], [], _ :: _, h => by cases h
  | [], _ :: _, _, h => by cases h
  | _ :: _, [], _, h => by cases h
  | _ :: _, _ :: _, [], h => by cases h
  | p :: fs, k :: ks, v :: vs, h => by
    unfold selB at h
    rw [Bool.and_eq_true] at h
    obtain ⟨h1, h2⟩ := h
    obtain ⟨l, a1, a2, a3, a4, a5, a6⟩ := sel_of L hs fs ks vs h2
    split at h1
    · rename_i t _ _ x _
      rw [Bool.and_eq_true, Bool.and_eq_true] at h1
      obtain ⟨⟨e1, e2⟩, e3⟩ := h1
      have e1 := of_decide_eq_true e1
      obtain ⟨fa, fd, ps, k, hk, hm, hkp, F, hb⟩ := L.fns p.2 x (of_decide_eq_true e2)
      obtain ⟨g1, g2⟩ := gl_of hs e3
      refine ⟨(p.1, fa) :: l, by simp [a1], by simp [a2], by simp [a3], by simpa using a4, ?_, fun s r r' hr f e => ?_⟩
      · rw [e1]
        exact pps_cons pe_str (pe_glob g1 hm rfl g2) a5
      · refine a6 s (if s = p.1 then some p.2 else r) (if s = p.1 then some (V.ref fa) else r') (fun f' hf => ?_) f e
        by_cases es : s = p.1
        · rw [if_pos es] at hf ⊢
          cases hf
          exact ⟨fa, rfl, fd, ps, k, hk, hkp, F, hb⟩
        · rw [if_neg es] at hf ⊢
          exact hr f' hf
    · cases h1
theorem der_sel {fs : List (Str × Nat)} {i : Nat} {a : E} (ha : DerAll nm kk P Tb Gv a) : DerAll nm kk P Tb Gv (.sel fs i a) := fun X Er W sc tl L A => der_no (fun _ => rfl) fun ex h => by
  simp only [mt, Mt.ex] at h
  split at h
  · rename_i ks vs p1 x p2 p3 e es pos
    simp only [Bool.and_eq_true, Bool.not_eq_true', decide_eq_true_eq] at h
    obtain ⟨⟨⟨⟨⟨⟨⟨h1, h2⟩, h3⟩, h4⟩, h5⟩, h6⟩, h7⟩, h8⟩ := h
    obtain ⟨l, a1, a2, a3, a4, a5, a6⟩ := sel_of (pos := p1) L A.hsc fs ks vs h1
    have hu : X.A.units + 1 < cLine := by have := A.room.un; omega
    have hne : ks ≠ [] := fun z => by
      rw [z] at a2
      cases fs with
      | nil => cases h2
      | cons _ _ => cases a2
    have pc : PE X (.Subscript (.Dict ks vs p1) (.Name x p2) p3) _ := pe_dget hu (pe_disp a5 a4 (by omega) hne (by omega)) (pe_var (isN_ A.N (decide_eq_true h4)) (vis_of A.hsc h5) h6 h7) (nosl_of (nm := nm) (a := .var i) (tl := tl) (sc := sc) (by
      show (decide (nm.N[i]? = some x) && vis sc x && !(x == dbg) && !(x == ("__classdict__" : Str))) = true
      rw [h5, h6, h7, decide_eq_true h4]; rfl))
    have pa := (ha X Er W sc tl L A).a (e :: es) h8
    obtain ⟨s1, s2⟩ := mtA_star (env := X.env) (pos := pos) a tl sc (e :: es) h8
    have sc1 : starEach (e :: es) X.env = (false, eval e X.env) :: starEach es X.env := star_cons (s2 e (by simp))
    rw [sc1] at s1
    have s1' : (false || (backTo pos (starEach es X.env)).any (·.1)) = false := s1
    refine val3 ⟨fun pins s σ H Q I h => ?_⟩
    show wpAny _ _ (do callWith pos (← eval (.Subscript (.Dict ks vs p1) (.Name x p2) p3) X.env) [] (backTo pos (starEach (e :: es) X.env)) (backToKw pos (keywordEach [] X.env))) _ _ _
    refine wpAny_bind (thn (pc.run pins s σ H (fun v H1 => ∃ pp t f fa, H pp = none ∧ H1 = upd H pp (.dK (mergeK [] (l.map fun p => ((Sum.inr p.1 : Key), V.ref p.2)))) ∧ v = .ref fa ∧ σ[i]? = some (some (.str t)) ∧ selGet fs t none = some f ∧ FA Er Tb kk X.prog X.w X.mg X.base f fa) I (fun pp hp => ?_)) fun u s1 ⟨v, H1, I1, rv, pp, t, f, fa, hp, e1, e2, e3, e4, fd, ps, k, hk, hkp, F, hb⟩ => ?_)
    · obtain ⟨t, f, g1, g2, _⟩ := h pp (mergeK [] (l.map fun p => ((Sum.inr p.1 : Key), V.ref p.2))) hp
      obtain ⟨fa, b1, b2⟩ := a6 t none none (fun f z => by cases z) f g2
      refine sel_pairs l ⟨upd_same, l.map (fun p => ((Sum.inr p.1 : Key), V.ref p.2)), by simp [kV], by simp; omega, .str t, g1, pp, .ref fa, rfl, ?_, pp, t, f, fa, hp, by rw [upd_upd], rfl, g1, g2, b2⟩
      have := DGet.k (H := upd (upd H pp (.dK [])) pp (.dK (mergeK [] (l.map fun p => ((Sum.inr p.1 : Key), V.ref p.2))))) (k := (Sum.inr t : Key)) upd_same
      rw [sel_merge, show valV ([] : List (Key × V)) (Sum.inr t) = none from rfl, b1] at this
      exact this
    · subst e1 e2
      obtain rfl : u = Value.ref fa := rv
      obtain ⟨t', f', g1, g2, g3⟩ := h pp (mergeK [] (l.map fun p => ((Sum.inr p.1 : Key), V.ref p.2))) hp
      rw [e3] at g1
      cases g1
      rw [e4] at g2
      cases g2
      refine PySem.W.callWith_K (h₀ := X.base) I1.ok.mod.kin hkp (thn (pa.run pos pins s1 σ _ _ I1 g3) fun us s2 ⟨vs, H2, I2, r, q⟩ => ⟨I2.kIn, ?_⟩) sc1 (by simpa using s1')
      exact run_fnS F (A.room.mono hk) hb (passAt A.tk σ) I2 r q
  · cases h
theorem der : ∀ e : E, DerAll nm kk P Tb Gv e
  | .var _ => der_var
  | .int _ => der_int
  | .bl _ => der_bl
  | .non => der_non
  | .str _ => der_str
  | .ty _ => der_ty
  | .glob _ => der_glob
  | .bin _ a b => der_bin (der a) (der b)
  | .neg a => der_neg (der a)
  | .cmp _ a b => der_cmp (der a) (der b)
  | .chain _ _ a b c => der_chain (der a) (der b) (der c)
  | .and a b => der_and (der a) (der b)
  | .or a b => der_or (der a) (der b)
  | .not a => der_not (der a)
  | .ite c a b => der_ite (der c) (der a) (der b)
  | .nil => der_nil
  | .cons a b => der_cons (der a) (der b)
  | .tup a => der_tup (der a)
  | .lst a => der_lst (der a)
  | .idx a i => der_idx (der a) (der i)
  | .srt k a => der_srt (der a)
  | .cnt a b => der_cnt (der a) (der b)
  | .slc a lo hi => der_slc (der a) (der lo) (der hi)
  | .np => der_np
  | .call _ a => der_call (der a)
  | .blt _ a => der_blt (der a)
  | .lc _ _ _ it c e => der_lc (der it) (der c) (der e)
  | .gx _ _ _ _ it c e => der_gx (der it) (der c) (der e)
  | .gsm _ _ _ it c e => der_gsm (der it) (der c) (der e)
  | .ixm a b => der_ixm (der a) (der b)
  | .fdv a b => der_fdv (der a) (der b)
  | .uni _ _ _ it c _ _ _ it1 c1 e => der_uni (der it) (der c) (der it1) (der c1) (der e)
  | .lrng a => der_lrng (der a)
  | .dnew => der_dnew
  | .din _ a d => der_din (der a) (der d)
  | .dget d a => der_dget (der d) (der a)
  | .dgeto d a b => der_dgeto (der d) (der a) (der b)
  | .fld c f a => der_fld (der a)
  | .mcl c m f o a => der_mcl (der o) (der a)
  | .mk c f a => der_mk (der a)
  | .newc a => der_newc (der a)
  | .scope a => der_scope (der a)
  | .lend _ a => der_lend (der a)
  | .told _ a => der_told (der a)
  | .tab1 _ _ => der_tab1
  | .sel _ _ a => der_sel (der a)
end
end Mini

namespace Mini
open PySem PySem.Spec PyProof.Rows L2

structure Ms where
  s : Bool → Scope → Stmt → Bool
  b : Bool → Scope → List Stmt → Bool
def Ms.st (f : Bool → Scope → Stmt → Bool) : Ms where
  s := f
  b := fun _ _ _ => false
def locB (sc : Scope) (x : Str) : Bool := decide (sc.names.lookup x = some .local) || decide (sc.names.lookup x = some .cell)
def mtIsS (nm : Nm) (sc : Scope) : List Nat → List Expr → Bool
  | [], [] => true
  | i :: is, .Name x _ :: es => decide (nm.N[i]? = some x) && locB sc x && mtIsS nm sc is es
  | _, _ => false
def mtGS (nm : Nm) (sc : Scope) : G → Expr → Bool
  | .name i, .Name x _ => decide (nm.N[i]? = some x) && locB sc x
  | .tup is, .Tuple es _ _ => mtIsS nm sc is es
  | .nst is i, .Tuple [.Tuple es _ _, .Name x _] _ _ => mtIsS nm sc is es && decide (nm.N[i]? = some x) && locB sc x
  | _, _ => false
def swB (sc : Scope) (v tg : Expr) : Bool := match v, tg with
  | .ListComp e g s p, .Name t q => decide (sc.names.lookup t = some .local) && q.line == p.line && !(s.names.any fun (n, k) => n == t && (k == .local || k == .cell))
  | .DictComp a b g s p, .Name t q => decide (sc.names.lookup t = some .local) && q.line == p.line && !(s.names.any fun (n, k) => n == t && (k == .local || k == .cell))
  | _, _ => false
def compE : Expr → Bool
  | .SetComp .. => true
  | .DictComp .. => true
  | _ => false
def lcE : Expr → Bool
  | .ListComp .. => true
  | _ => false
def isLc : E → Bool
  | .lc .. => true
  | _ => false
def isUni : E → Bool
  | .uni .. => true
  | _ => false
def asgC (e : E) (sc : Scope) (v tg : Expr) : Bool := if compE v then isUni e && swB sc v tg else !(swB sc v tg) || isLc e
def starB : Expr → Bool
  | .Starred .. => true
  | _ => false
def swN (sc : Scope) (line : Nat) : List Expr → List Str
  | [] => []
  | .Name id pos :: r => if decide (sc.names.lookup id = some .local) && pos.line == line then id :: swN sc line r else swN sc line r
  | _ :: r => swN sc line r
def swT (sc : Scope) (ts vs : List Expr) : Option (Option (List Str)) :=
  if !(ts.length == 2 || ts.length == 3) || vs.length != ts.length then some none
  else if vs.any starB then some none
  else if (swN sc ((ts.head?.map (·.pos.line)).getD 0) ts).length != ts.length || (swN sc ((ts.head?.map (·.pos.line)).getD 0) ts).eraseDups.length != (swN sc ((ts.head?.map (·.pos.line)).getD 0) ts).length then some none
  else if vs.all (foldedForSure 8) then some none
  else if vs.all (constantsAlone 8) then none
  else some (some (swN sc ((ts.head?.map (·.pos.line)).getD 0) ts))
def swOk (sc : Scope) (tg v : Expr) : Bool := match tg, v with
  | .Name .., _ => true
  | .Tuple ts _ _, .Tuple vs _ _ => decide (swT sc ts vs = some none)
  | .Tuple .., _ => true
  | _, _ => false
def namesE : List Expr → List Str
  | [] => []
  | .Name x _ :: r => x :: namesE r
  | _ :: r => namesE r
def isPar (sc : Scope) (ts vs : List Expr) : Bool := decide (swT sc ts vs = some (some (namesE ts)))
def listM (nm : Nm) (sc : Scope) (i : Nat) (name : Str) (f : List Expr → Bool) : Stmt → Bool
  | .Expr (.Call (.Attribute (.Name x p) n apos) es [] cpos) _ => decide (nm.N[i]? = some x) && vis sc x && !(x == dbg) && !(x == ("__classdict__" : Str)) && decide (n = name) && (apos.endLine == cpos.line) && f es
  | _ => false
def raisM (rs : List Str) (sc : Scope) (c : Str) : Stmt → Bool
  | .Raise (some (.Call (.Name x p) [.Constant (.str _) _ _] [] _)) none _ => decide (x = c) && rs.contains c && gl sc x
  | _ => false
def lamEsM (nm : Nm) (sc : Scope) : E → List Expr → Bool
  | .nil, [] => true
  | .cons a b, .Lambda ps body lsc _ :: es => noArgs ps && LamX.lamSB sc lsc && (mt nm a).e false lsc body && lamEsM nm sc b es
  | _, _ => false
def lamsM (nm : Nm) (tl : Bool) (sc : Scope) (w k : Nat) (lcs : List Str) (rhs es : E) : List Stmt → Bool
  | [.Assign [.Name x _] (.List ls _) _, .For (.Name y _) (.Call (.Name rg _) [.Call (.Name ln _) [.Name x2 _] [] _] [] _) [.If (.Compare (.Call (.Name td _) [.Subscript (.Name x3 _) (.Name y2 _) _] [] _) [.NotEq] [r] _) [.Return (some (.Constant (.bool _) _ _)) _] [] _] [] _] =>
    (tl && nm.lq && decide (nm.lcs = lcs) && decide (nm.N[w]? = some x) && decide (nm.N[k]? = some y) && locB sc x && locB sc y && decide (x2 = x) && decide (x3 = x) && decide (y2 = y)) &&
    (decide (rg = ("range" : Str)) && bltT nm sc rg && decide (ln = ("len" : Str)) && bltT nm sc ln && decide (td = nm.told) && gl sc td && !(x == dbg) && !(x == ("__classdict__" : Str)) && !(y == dbg) && !(y == ("__classdict__" : Str))) &&
    ((mt nm rhs).e false sc r && lamEsM nm sc es ls && decide (ls.length ≤ 1000))
  | _ => false
def mtS (nm : Nm) (rs : List Str) : S → Ms
  | .skip => { s := fun _ _ _ => false, b := fun _ _ l => l.isEmpty }
  | .seq a b => { s := fun _ _ _ => false, b := fun tl sc l => match l with
    | x :: r => (mtS nm rs a).s tl sc x && (mtS nm rs b).b tl sc r
    | [] => false }
  | .frz _ a => mtS nm rs a
  | .pass => .st fun _ _ st => match st with
    | .Pass _ => true
    | _ => false
  | .expr e => .st fun tl sc st => match st with
    | .Expr v _ => (mt nm e).e tl sc v && !(compE v) && !(lcE v)
    | _ => false
  | .asg g e => .st fun tl sc st => match st with
    | .Assign [tg] v _ => (mt nm e).e tl sc v && mtGS nm sc g tg && asgC e sc v tg && swOk sc tg v
    | _ => false
  | .asgO i e => .st fun tl sc st => match st with
    | .Assign [tg] v _ => (mt nm e).e tl sc v && mtGS nm sc (.name i) tg && asgC e sc v tg && swOk sc tg v
    | _ => false
  | .par is a => .st fun tl sc st => match st with
    | .Assign [.Tuple ts _ _] (.Tuple vs _ _) _ => decide (ts.length = 2 ∨ ts.length = 3) && decide ((is.map (·.1)).Nodup) && mtIs nm sc (is.map (·.1)) ts && isPar sc ts vs && (mt nm a).a tl sc vs
    | _ => false
  | .asgT is a => .st fun tl sc st => match st with
    | .Assign [tg] (.Tuple vs k p) _ => (mt nm a).a tl sc vs && mtGS nm sc (.tup (is.map (·.1))) tg && !(swB sc (.Tuple vs k p) tg) && swOk sc tg (.Tuple vs k p)
    | _ => false
  | .setx o ix e => .st fun tl sc st => match st with
    | .Assign [.Subscript x y _] v _ => (mt nm e).e tl sc v && (mt nm o).e tl sc x && (mt nm ix).e tl sc y
    | _ => false
  | .aug i o e => .st fun tl sc st => match st with
    | .AugAssign (.Name x _) p v _ => decide (o = p) && decide (nm.N[i]? = some x) && locB sc x && (mt nm e).e tl sc v
    | _ => false
  | .setf c i f e => .st fun tl sc st => match st with
    | .Assign [.Attribute (.Name x p) n _] v _ => decide (n = f) && nm.fl.contains (c, f) && (mt nm (.var i)).e tl sc (.Name x p) && (mt nm e).e tl sc v
    | _ => false
  | .augf c i f o e => .st fun tl sc st => match st with
    | .AugAssign (.Attribute (.Name x p) n _) op v _ => decide (o = op) && decide (n = f) && nm.fl.contains (c, f) && (mt nm (.var i)).e tl sc (.Name x p) && (mt nm e).e tl sc v
    | _ => false
  | .dsetd i k e => .st fun tl sc st => listM nm sc i "setdefault" (fun es => match es with
    | [x, y] => (mt nm k).e tl sc x && (mt nm e).e tl sc y
    | _ => false) st
  | .dput i k e => .st fun tl sc st => match st with
    | .Assign [.Subscript (.Name x p) y _] v _ => (mt nm (.var i)).e tl sc (.Name x p) && (mt nm k).e tl sc y && (mt nm e).e tl sc v
    | _ => false
  | .app i e => .st fun tl sc st => listM nm sc i "append" (fun es => match es with
    | [x] => (mt nm e).e tl sc x
    | _ => false) st
  | .ext i e => .st fun tl sc st => listM nm sc i "extend" (fun es => match es with
    | [x] => (mt nm e).e tl sc x
    | _ => false) st
  | .pop i => .st fun _ sc st => listM nm sc i "pop" (fun es => es.isEmpty) st
  | .ite c a b => .st fun tl sc st => match st with
    | .If x y z _ => (mt nm c).e tl sc x && (mtS nm rs a).b tl sc y && (mtS nm rs b).b tl sc z
    | _ => false
  | .whl c b => .st fun tl sc st => match st with
    | .While x y [] _ => (mt nm c).e tl sc x && (mtS nm rs b).b tl sc y
    | _ => false
  | .for g k it b => .st fun tl sc st => match st with
    | .For tg iter y [] _ => mtGS nm sc g tg && mtI nm k ((mt nm it).a tl sc) tg sc iter && (mtS nm rs b).b tl sc y
    | _ => false
  | .ret e => .st fun tl sc st => match st with
    | .Return (some v) _ => (mt nm e).e tl sc v
    | _ => false
  | .retN => .st fun _ _ st => match st with
    | .Return none _ => true
    | _ => false
  | .rais c => .st fun _ sc st => raisM rs sc c st
  | .raisP c e => .st fun tl sc st => match st with
    | .Raise (some (.Call (.Name x _) [v] [] _)) none _ => decide (x = c) && nm.pay.any (fun q => decide (q.1 = c)) && gl sc x && (mt nm e).e tl sc v
    | _ => false
  | .tryF i e c => .st fun _ sc st => match st with
    | .Try [.Expr v _] [.ExceptHandler (some (.Name x _)) (some n) [.Return (some (.Attribute (.Name n2 _) f _)) _] _] [] [] _ =>
      decide (x = c) && gl sc x && nm.pay.contains (c, f) && decide (n2 = n) && decide (nm.N[i]? = some n) && decide (sc.names.lookup n = some .local) && !(n == dbg) && !(n == ("__classdict__" : Str)) && (mt nm e).e false sc v && !(compE v) && !(lcE v)
    | _ => false
  | .augx i ix o e => .st fun tl sc st => match st with
    | .AugAssign (.Subscript (.Name x p) y _) op v _ => decide (o = op) && (mt nm (.var i)).e tl sc (.Name x p) && (mt nm ix).e tl sc y && (mt nm e).e tl sc v
    | _ => false
  | .brk => .st fun _ _ st => match st with
    | .Break _ => true
    | _ => false
  | .cont => .st fun _ _ st => match st with
    | .Continue _ => true
    | _ => false
  | .raw => { s := fun _ _ _ => true, b := fun _ _ _ => true }
  | .lams w k lcs rhs es => { s := fun _ _ _ => false, b := fun tl sc l => lamsM nm tl sc w k lcs rhs es l }
termination_by structural s => s
structure LamA (nm : Nm) (kk : Nat) (Tb : List (Addr × Str)) (xv : Str → Value) (X : Cx) : Prop where
  ex : ∃ (g c P : Addr) (pg : Arguments) (bg : List Stmt) (sg : Scope) (dV kV doc pm cdv ct oc : Value) (an od : Option Addr) (osl : Array (Option Value)) (a : Str) (Ng : List Str) (c0v : Value) (cvs1 cvs2 : List Value),
    (X.mg nm.told = some (.ref g) ∧ PySem.W.keepIn X.K (.ref g) = true ∧ X.K.lookup g = some ⟨oc, od, .func (PySem.W.fnOf nm.told nm.told pg bg sg dV kV doc pm an cdv ct), osl⟩ ∧ PySem.W.codeIn X.K cdv nm.told = true ∧
      Binds X.K (PySem.W.fnOf nm.told nm.told pg bg sg dV kV doc pm an cdv ct) [a] [] ∧ FnScope Ng [a] sg ∧ Ng[0]? = some a ∧ Vis sg a ∧ LamX.GivesTo X Ng nm.told sg g cdv bg a (X.env.qual ++ "<lambda>") (MiniL.TTq X.K c0v cvs1 cvs2) ∧ Room (kk + 2) X.A ∧
      (a == ("__debug__" : Str)) = false ∧ (a == ("__classdict__" : Str)) = false) ∧
    (LamX.TabB X.base X.mg c P ∧ X.env.code = .ref c ∧ (P, X.env.qual ++ "<lambda>") ∈ Tb ∧ ∀ p ∈ Tb, p.1 = P → p.2 = X.env.qual ++ "<lambda>") ∧
    ∀ x, x ∈ nm.lcs → ∃ (D : Addr) (bs1 bs2 : List Bool), xv x = .ref D ∧ ExcC X.K D ∧ PySem.W.exmOne X.K (xv x) c0v = some true ∧ MiniL.Kits X.K (xv x) cvs1 bs1 ∧ MiniL.Kits X.K (xv x) cvs2 bs2 ∧ bs1 ++ bs2 = (nm.lcs.map fun y => decide (y = x)) ++ [true]
structure Rs (K : PySem.W.Frag) (mg : Str → Option Value) (c : Str) (v : Value) : Prop where
  ex : ∃ C, v = .ref C ∧ mg c = some (.ref C) ∧ PySem.W.keepIn K (.ref C) = true ∧ PySem.W.excIn K C [.type "ValueError", .type "Exception", .type "BaseException", .type "object"] "ValueError.__new__" = true ∧
    PySem.W.subIn K (.ref C) (.type "BaseException") = some true ∧ PySem.W.typeIn K (.ref C) = some (.type "type")
structure AmbS (nm : Nm) (kk : Nat) (Tb : List (Addr × Str)) (xv : Str → Value) (rs : List Str) (X : Cx) (sc : Scope) (W : WX) (tl : Bool) : Prop extends Amb nm kk Tb xv X sc W tl where
  fn : ∀ x, X.fn x = true
  po : PassesOwn (model X.prog X.w) X.A X.env X.xe
  kind : sc.kind = .function
  rs : ∀ c, c ∈ rs → Rs X.K X.mg c (xv c)
  stk : X.stack = X.env :: X.outer ∧ X.env.frame = some X.env.locals
  room1 : Room (kk + 1) X.A
  lam : tl = true → nm.lq = true → LamA nm kk Tb xv X
theorem noArgs_eq {ps : Arguments} (h : noArgs ps = true) : ps = ⟨[], [], none, [], [], none, []⟩ := by
  unfold noArgs at h
  split at h
  · rfl
  · cases h
section
variable {nm : Nm} {kk : Nat} {P : Par} {Tb : List (Addr × Str)} {Gv : Nat → V} {rs : List Str} {X : Cx} {sc : Scope}
theorem locB_of {x : Str} (hs : X.env.scope = sc) (h : locB sc x = true) : Loc X.env.scope x := by
  unfold locB at h
  rw [Bool.or_eq_true] at h
  rw [hs]
  exact h.elim (fun h => .inl (of_decide_eq_true h)) fun h => .inr (of_decide_eq_true h)
theorem pgs_ofS {is : List Nat} {es : List Expr} (hf : ∀ x, X.fn x = true) (hN : X.N = nm.N) (nd : nm.N.Nodup) (hs : X.env.scope = sc) (h : mtIsS nm sc is es = true) :
    PGs X es (gNames is) ∧ (assignEach es X.env).length = is.length ∧ (assignEach es X.env).findIdx? (·.1) = none ∧ es.length = is.length := by
  induction is generalizing es with
  | nil =>
    cases es with
    | nil => exact ⟨pgs_nil, rfl, rfl, rfl⟩
    | cons e r => cases h
  | cons i is ih =>
    cases es with
    | nil => cases h
    | cons e r =>
      cases e <;> first | cases h | skip
      case Name x p =>
      have h' : (decide (nm.N[i]? = some x) && locB sc x && mtIsS nm sc is r) = true := h
      rw [Bool.and_eq_true, Bool.and_eq_true] at h'
      obtain ⟨h1, h2, h3, h4⟩ := ih h'.2
      refine ⟨pgs_cons (pg_name (by rw [hN]; exact nd) (isN_ hN h'.1.1) (locB_of hs h'.1.2) (.inl (hf x))) h1 (by rfl), ?_, ?_, ?_⟩
      · show (assignEach r X.env).length + 1 = _
        rw [h2]; rfl
      · show ((false, assign (.Name x p) X.env) :: assignEach r X.env).findIdx? (·.1) = none
        rw [List.findIdx?_cons, h3]
        rfl
      · rw [List.length_cons, List.length_cons, h4]
theorem pg_ofS {g : G} {tg : Expr} (hf : ∀ x, X.fn x = true) (hc : X.calm = true) (hN : X.N = nm.N) (nd : nm.N.Nodup) (hs : X.env.scope = sc) (h : mtGS nm sc g tg = true) : PG X tg (gK X.K g) := by
  cases g with
  | name i =>
    cases tg <;> first | cases h | skip
    case Name x p =>
    have h' : (decide (nm.N[i]? = some x) && locB sc x) = true := h
    rw [Bool.and_eq_true] at h'
    exact pg_name (by rw [hN]; exact nd) (isN_ hN h'.1) (locB_of hs h'.2) (.inl (hf x))
  | tup is =>
    cases tg <;> first | cases h | skip
    case Tuple es k p =>
    obtain ⟨h1, h2, h3, _⟩ := pgs_ofS hf hN nd hs h
    exact pg_or (pg_tup hc h1 h2 h3) (pg_lst hc h1 h2 h3)
  | nst is i =>
    cases tg <;> first | cases h | skip
    case Tuple es k p =>
    rcases es with _ | ⟨e1, _ | ⟨e2, _ | ⟨_, _⟩⟩⟩ <;> first | cases h | skip
    · cases e1 <;> cases h
    · cases e1 <;> first | cases h | skip
      case Tuple es2 k2 p2 =>
      cases e2 <;> first | cases h | skip
      case Name x p3 =>
      have h' : (mtIsS nm sc is es2 && decide (nm.N[i]? = some x) && locB sc x) = true := h
      rw [Bool.and_eq_true, Bool.and_eq_true] at h'
      obtain ⟨h1, h2, h3, _⟩ := pgs_ofS hf hN nd hs h'.1.1
      exact pg_tup hc (pgs_cons (pg_tup hc h1 h2 h3) (pgs_cons (pg_name (by rw [hN]; exact nd) (isN_ hN h'.1.2) (locB_of hs h'.2) (.inl (hf x))) pgs_nil (by rfl)) (by rfl))
    · cases e1 <;> first | cases h | skip
      case Tuple es2 k2 p2 => cases e2 <;> cases h
theorem bk_of {env : Env} (hs : env.scope = sc) (hk : sc.kind = .function) : env.blockKind = .function := by
  subst hs
  unfold Env.blockKind; rw [hk]; rfl
theorem swB_of {env : Env} (hs : env.scope = sc) (hk : sc.kind = .function) {v tg : Expr} {l : Nat} (hc : compE v = false) (h : swB sc v tg = false) (ht : mtGS nm sc (.name 0) tg = true ∨ (∃ x p, tg = .Name x p) ∨ ∃ es k p, tg = .Tuple es k p) : swapsWith v (some tg) l env = pure false := by
  have hb := bk_of hs hk
  subst hs
  cases v
  case ListComp e g s p =>
   have ht' : (∃ x p, tg = .Name x p) ∨ ∃ es k p, tg = .Tuple es k p := by
     rcases ht with ht | ht
     · cases tg <;> first | cases ht | skip
       case Name x q => exact .inl ⟨_, _, rfl⟩
     · exact ht
   rcases ht' with ⟨x, q, rfl⟩ | ⟨es, k, q, rfl⟩
   · have h' : (decide (env.scope.names.lookup x = some .local) && q.line == p.line && !(s.names.any fun (n, k) => n == x && (k == .local || k == .cell))) = false := h
     unfold swapsWith
     simp only [hb, Expr.pos]
     have e : (env.kindOf x == some NameKind.local) = decide (env.scope.names.lookup x = some .local) := by
       show (env.scope.names.lookup x == some NameKind.local) = _
       cases env.scope.names.lookup x with
       | none => rfl
       | some k => cases k <;> rfl
     rw [e]
     show pure ((ScopeKind.function == ScopeKind.function) && _ && _ && _) = _
     have e2 : (ScopeKind.function == ScopeKind.function) = true := rfl
     rw [e2, Bool.true_and, h']
   · rfl
  all_goals first | rfl | cases hc
theorem any_of {f g : Expr → Bool} (l : List Expr) (h : ∀ x, f x = g x) : l.any f = l.any g := by rw [show f = g from funext h]
theorem swN_of {f : Expr → Option Str} {line : Nat} (ts : List Expr) (h1 : ∀ id pos, f (.Name id pos) = if (decide (sc.names.lookup id = some .local) && pos.line == line) = true then some id else none) (h2 : ∀ x, (∀ id pos, x ≠ .Name id pos) → f x = none) : ts.filterMap f = swN sc line ts := by
  induction ts with
  | nil => rfl
  | cons t ts ih =>
    rw [List.filterMap_cons, ih]
    cases t with
    | Name id pos =>
      rw [h1]
      show _ = if (decide (sc.names.lookup id = some .local) && pos.line == line) = true then id :: swN sc line ts else swN sc line ts
      by_cases hq : (decide (sc.names.lookup id = some .local) && pos.line == line) = true
      · rw [if_pos hq, if_pos hq]
      · rw [if_neg hq, if_neg hq]
    | _ => rw [h2 _ (fun _ _ z => by cases z)]; rfl
theorem kl_of {env : Env} (hs : env.scope = sc) (id : Str) : (env.kindOf id == some NameKind.local) = decide (sc.names.lookup id = some .local) := by
  subst hs
  show (env.scope.names.lookup id == some NameKind.local) = _
  cases env.scope.names.lookup id with
  | none => rfl
  | some k => cases k <;> rfl
theorem swT_of {env : Env} (hs : env.scope = sc) (hk : sc.kind = .function) {ts vs : List Expr} {k k2 : Nat} {p p2 : Pos} {r : Option (List Str)} (h : swT sc ts vs = some r) : swappedStores [.Tuple ts k p] (.Tuple vs k2 p2) env = pure r := by
  have hb := bk_of hs hk
  unfold swT at h
  unfold swappedStores
  simp only [hb]
  have e2 : (ScopeKind.function != ScopeKind.function) = false := rfl
  rw [e2, Bool.or_false]
  rw [any_of (g := starB) vs (by intro x; cases x <;> rfl)]
  rw [swN_of (sc := sc) (line := (ts.head?.map (·.pos.line)).getD 0) ts (by intro id pos; simp only [kl_of hs]) (by intro x hx; cases x <;> first | rfl | exact absurd rfl (hx _ _))]
  split at h
  · rename_i hq
    cases h
    rw [if_pos hq]
  · rename_i hq
    rw [if_neg hq]
    split at h
    · rename_i hq
      cases h
      rw [if_pos hq]
    · rename_i hq
      rw [if_neg hq]
      split at h
      · rename_i hq
        cases h
        rw [if_pos hq]
      · rename_i hq
        rw [if_neg hq]
        split at h
        · rename_i hq
          cases h
          rw [if_pos hq]
        · rename_i hq
          rw [if_neg hq]
          split at h
          · cases h
          · rename_i hq
            cases h
            rw [if_neg hq]
theorem swOk_of {env : Env} (hs : env.scope = sc) (hk : sc.kind = .function) {tg v : Expr} (h : swOk sc tg v = true) : swappedStores [tg] v env = pure none := by
  cases tg <;> first | cases h | skip
  case Name.refl => cases v <;> rfl
  case Tuple ts k p =>
  cases v <;> first | rfl | skip
  case Tuple vs k2 p2 => exact swT_of hs hk (of_decide_eq_true h)
end
end Mini

namespace Mini
open PySem PySem.Spec PyProof.Rows L2
section
variable {nm : Nm} {kk : Nat} {P : Par} {Tb : List (Addr × Str)} {Gv : Nat → V} {rs : List Str}
def mkL {K : PySem.W.Frag} (P : Par) (Er : Errs K P.X) (Tb : List (Addr × Str)) (Gv : Nat → V) : E → List Expr → List MiniL.LTx
  | .cons a b, .Lambda ps body lsc pos :: es => ⟨ps, body, lsc, pos, fun E => (rd P Er Tb Gv a fun cls d _ H => E cls d H).v⟩ :: mkL P Er Tb Gv b es
  | _, _ => []
def tlE : E → Nat → E
  | e, 0 => e
  | .cons _ b, n + 1 => tlE b n
  | e, _ + 1 => e
theorem mkL_ok {X : Cx} {sc : Scope} {W : WX} {tl : Bool} {Er : Errs X.K P.X} (L : Lib P Er Tb Gv nm kk X.prog X.w X.mg X.base) (A : Amb nm kk Tb Er.xv X sc W tl) : ∀ (es : E) (l : List Expr), lamEsM nm sc es l = true →
    (mkL P Er Tb Gv es l).map MiniL.LTx.ex = l ∧ (∀ (i : Nat) (x : MiniL.LTx), (mkL P Er Tb Gv es l)[i]? = some x → ∃ a b, tlE es i = .cons a b ∧ tlE es (i + 1) = b ∧ x.t = fun E => (rd P Er Tb Gv a fun cls d _ H => E cls d H).v) ∧
    tlE es (mkL P Er Tb Gv es l).length = .nil ∧
    ∀ x, x ∈ mkL P Er Tb Gv es l → LamX.LamS X.env.scope x.scope ∧ defaultsOf x.params X.env = ([], []) ∧ (∀ (q : Str) (cl : List (Str × Addr)) (pm cv ctv : Value), bindArgs (PySem.W.kla_fn "<lambda>" q x.params x.body x.scope cl pm cv ctv) ⟨[], []⟩ = pure []) ∧
      ∀ (A : Around) (outer : List Env) (s : Shared) (H : Hp) (E : XK) (f c' : Addr), Room kk (A.deeper (LamX.lamEnv X x.scope s.heap.objs.size f c')) → PE (LamX.lamCx X A outer s H E x.scope f c') x.body (x.t E) := by
  intro es
  induction es with
  | nil =>
    intro l h
    cases l with
    | nil => exact ⟨rfl, fun i x e => by simp [mkL] at e, rfl, fun x hx => by simp [mkL] at hx⟩
    | cons _ _ => cases h
  | cons a b iha ihb =>
    intro l h
    cases l with
    | nil => cases h
    | cons e l =>
      cases e <;> first | cases h | skip
      case Lambda ps body lsc pos =>
      have h' : (noArgs ps && LamX.lamSB sc lsc && (mt nm a).e false lsc body && lamEsM nm sc b l) = true := h
      simp only [Bool.and_eq_true] at h'
      obtain ⟨⟨⟨h1, h2⟩, h3⟩, h4⟩ := h'
      obtain ⟨k1, k2, k3, k4⟩ := ihb l h4
      have e1 := noArgs_eq h1
      subst e1
      refine ⟨by show _ :: _ = _; rw [k1]; rfl, fun i x e => ?_, k3, fun x hx => ?_⟩
      · cases i with
        | zero =>
          have e' : some _ = some x := e
          cases e'
          exact ⟨a, b, by simp [tlE], by simp [tlE], rfl⟩
        | succ i =>
          have e' : (mkL P Er Tb Gv b l)[i]? = some x := e
          obtain ⟨a', b', z1, z2, z3⟩ := k2 i x e'
          exact ⟨a', b', by simpa [tlE] using z1, by simpa [tlE] using z2, z3⟩
      · rcases List.mem_cons.mp hx with rfl | hx
        · refine ⟨by rw [A.hsc]; exact LamX.lamS_by h2, rfl, fun _ _ _ _ _ => rfl, fun A' outer s H E f c' hr => ?_⟩
          have L' : Lib P (K := (LamX.lamCx X A' outer s H E lsc f c').K) Er Tb Gv nm kk (LamX.lamCx X A' outer s H E lsc f c').prog (LamX.lamCx X A' outer s H E lsc f c').w (LamX.lamCx X A' outer s H E lsc f c').mg (LamX.lamCx X A' outer s H E lsc f c').base := L
          exact ((der a (LamX.lamCx X A' outer s H E lsc f c') Er (fun cls d _ H => E cls d H) lsc false L' ⟨A.N, A.nd, rfl, rfl, takes_of rfl rfl rfl rfl, hr, (fun z => by cases z), (fun z => by cases z), fun z => by cases z⟩).e body h3).1
        · exact k4 x hx
  | _ => intro l h; cases h
theorem amb_tr {X : Cx} {sc : Scope} {W : WX} {tl : Bool} {xv : Str → Value} {pn : List (Addr × Obj)} (A : Amb nm kk Tb xv X sc W tl) : Amb nm kk Tb xv (X.tr (X.pn ++ pn) X.xe) sc W false := by
  refine ⟨A.N, A.nd, A.calm, A.hsc, fun u s' z => A.tk u s' ?_, A.room, (fun z => by cases z), (fun z => by cases z), fun z => by cases z⟩
  obtain ⟨a2, B2, sI, pins2, σ2, H2, cls, d, e1, I2, e3⟩ := z
  exact ⟨a2, B2, sI, pins2, σ2, H2, cls, d, e1, MiniL.inv_untr I2, e3⟩
theorem pre_ext {K : PySem.W.Frag} {C : List Addr} {M : Addr → Prop} {H H1 : Hp} {δ : Dl} (p : Pre K Tb C M H δ) (eN : LamX.ExtN H H1) (T1 : LamX.Tabs Tb H1) : Le C H C H1 ∧ Pre K Tb C M H1 δ := by
  have l1 : Le C H C H1 := ⟨⟨[], by simp⟩, fun a h n => absurd h n, fun a o h _ hn => eN a o h hn⟩
  refine ⟨l1, T1, p.nd, p.len, p.cm, fun a m => ?_, fun k ts e => ?_⟩
  · obtain ⟨xs, h, mo⟩ := p.mh a m
    exact ⟨xs, eN a _ h mo.nt, mo⟩
  · obtain ⟨a, e1, r⟩ := p.cells k ts e
    exact ⟨a, e1, r.map (fun o co e2 => eN a _ e2 co.nt) (RepL.step p.cellH l1 inl_)⟩
theorem extN_upd {H : Hp} {p : Addr} {o : HO} (h : H p = none) : LamX.ExtN H (upd H p o) := fun b u e _ => by
  rw [upd_ne (fun z => by rw [z, h] at e; cases e)]; exact e
theorem tabs_upd {H : Hp} {p : Addr} {o : HO} (h : H p = none) (T : LamX.Tabs Tb H) : LamX.Tabs Tb (upd H p o) := T.ext fun b u e => by
  rw [upd_ne (fun z => by rw [z, h] at e; cases e)]; exact e
theorem Good.free {K : PySem.W.Frag} {M0 : Addr → Prop} {C0 C : List Addr} {H0 H : Hp} {Gh : List (D × V)} {σ : Sig} {σv : L2.St} {δ : Dl} {w : Nat} {v : V} (g : Good K Tb M0 C0 H0 Gh C σ σv H δ) (hw : σ[w]? = some none) : Good K Tb M0 C0 H0 Gh C σ (σv.set w (some v)) H δ := by
  have hne : ∀ (i : Nat) (d : D), σ[i]? = some (some d) → (σv.set w (some v))[i]? = σv[i]? := fun i d e => List.getElem?_set_ne (fun z => by rw [← z, hw] at e; cases e)
  refine g.stored ⟨by rw [List.length_set, g.sl.len], fun i d e => ?_⟩ fun i ts e => ⟨e, hne i _ e⟩
  rw [hne i d e]
  exact g.sl.at_ i d e
theorem repL_bls {K : PySem.W.Frag} {C : List Addr} {M : Addr → Prop} {H : Hp} : ∀ bs : List Bool, RepL K C M H (bs.map .bl) (bs.map V.bl)
  | [] => repL_nil
  | b :: bs => repL_cons mk_bl (repL_bls bs)
theorem codeO_co {C : List Addr} {H : Hp} (c : CellH C H) {a : Addr} {q : Str} (h : H a = some (LamX.CodeO a q)) : a ∉ C := fun z => by
  refine c.no z h fun co => ?_
  rcases co with ⟨_, e⟩ | ⟨_, _, _, e⟩ | ⟨_, _, e⟩ | ⟨_, e⟩
  · unfold LamX.CodeO at e; cases e
  · unfold LamX.CodeO at e; cases e
  · exact dO_code e.symm
  · unfold LamX.CodeO at e; cases e
theorem codeO_nt {a : Addr} {q : Str} : ∀ ps, LamX.CodeO a q ≠ .tbl ps := fun ps z => by unfold LamX.CodeO at z; cases z
theorem atI_natL {α : Type} {xs : List α} {i : Nat} {x : α} (h : xs[i]? = some x) : atI xs (i : Int) = some x := by
  have hi := (List.getElem?_eq_some_iff.mp h).1
  unfold atI ixN
  rw [if_pos (by omega), if_pos (by omega)]
  exact h
theorem ps_lams {w k : Nat} {lcs : List Str} {rhs es : E} {X : Cx} {sc : Scope} {W : WX} {tl : Bool} {Er : Errs X.K P.X} (L : Lib P Er Tb Gv nm kk X.prog X.w X.mg X.base) (A : AmbS nm kk Tb Er.xv rs X sc W tl) {l : List Stmt} (h : lamsM nm tl sc w k lcs rhs es l = true) :
    PSs X l (rdS P Er Tb Gv W (.lams w k lcs rhs es)) := by
  unfold lamsM at h
  split at h
  · rename_i x xp lx lp ap y yp rg rp ln np x2 xp2 lp2 rp2 td tp x3 xp3 y2 yp2 sp tp2 r cp bb bj bq rp3 ip fp
    simp only [Bool.and_eq_true, decide_eq_true_eq, Bool.not_eq_true'] at h
    obtain ⟨⟨⟨⟨⟨⟨⟨⟨⟨⟨⟨h1, h2⟩, h3⟩, h4⟩, h5⟩, h6⟩, h7⟩, h8⟩, h9⟩, h10⟩, ⟨⟨⟨⟨⟨⟨⟨⟨⟨k1, k2⟩, k3⟩, k4⟩, k5⟩, k6⟩, k7⟩, k8⟩, k9⟩, k10⟩⟩, ⟨⟨m1, m2⟩, m3⟩⟩ := h
    subst h8 h9 h10 k1 k3 k5
    subst h3
    obtain ⟨g, c, Pp, pg, bg, sg, dV, kV, doc, pm, cdv, ct, oc, an, od, osl, a, Ng, c0v, cvs1, cvs2, ⟨a1, a2, a3, a4, a5, a6, a7, a8, a9, a10, a11, a12⟩, ⟨b1, b2, b3, b4⟩, kits⟩ := (A.lam h1 h2).ex
    obtain ⟨ml1, ml2, ml3, ml4⟩ := mkL_ok L A.toAmb es lx m2
    generalize mkL P Er Tb Gv es lx = ls at ml1 ml2 ml3 ml4
    have hND : X.N.Nodup := by rw [A.N]; exact A.nd
    have hNw := isN_ A.N (show decide (nm.N[w]? = some x3) = true from decide_eq_true h4)
    have hNk := isN_ A.N (show decide (nm.N[k]? = some y2) = true from decide_eq_true h5)
    obtain ⟨gr1, gr2, gr3, gr4⟩ := bltT_of A.hsc k2
    obtain ⟨gl1, gl2, gl3, gl4⟩ := bltT_of A.hsc k4
    obtain ⟨gt1, gt2⟩ := gl_of A.hsc k6
    refine ⟨fun pins s σv H Dn I hq => ?_⟩
    obtain ⟨sn, M0, C0, H0, Gh, C, σ, δ, gd, q⟩ := hq
    unfold lamsEv at q
    split at q
    case h_2 => exact q.elim
    rename_i ew ek
    split at q
    case isFalse => exact q.elim
    rename_i hwk
    rw [Bool.and_eq_true, decide_eq_true_eq, decide_eq_true_eq] at hwk
    obtain ⟨hwk, hll⟩ := hwk
    have hlw : w < σv.length := by rw [← gd.sl.len]; exact (List.getElem?_eq_some_iff.mp ew).1
    have hlk : k < σv.length := by rw [← gd.sl.len]; exact (List.getElem?_eq_some_iff.mp ek).1
    refine wpAny_execs_cons (wpAny_Assign_Name (wpAny_List_spliced ?_) (by rfl))
    rw [← ml1]
    refine MiniL.lam_list A.stk b1 b2 b3 b4 ls (fun l hl => ⟨(ml4 l hl).1, (ml4 l hl).2.1⟩) I gd.pre.tabs fun recs H1 s1 I1 e1 T1 el hco => ?_
    have hlen : recs.length ≤ 1000 := by
      have : (recs.map (·.l)).length = (ls.map MiniL.LTx.ex).length := by rw [el, List.length_map]
      rw [List.length_map, ml1] at this
      omega
    refine ⟨by rw [List.length_map, sizeLine_eq]; omega, ?_⟩
    generalize ep : s1.heap.objs.size = p
    have hf : H1 p = none := by rw [← ep]; exact I1.hok.fresh (Nat.le_refl _)
    have rels : ∀ rs : List MiniL.LRec, Vals (rs.map fun r => V.ref r.f) (rs.map fun r => Value.ref r.f) := fun rs => by
      induction rs with
      | nil => exact .nil
      | cons r rs ih => exact .cons rfl ih
    have I2 := I1.laid (t' := s1.toks) (a := p) (o := .lst (recs.map fun r => V.ref r.f)) (h' := s1.heap.push { cls := .type "list", data := .seq (recs.map fun r => Value.ref r.f).toArray }) (fun b u e => Heap.get?_push_of_some _ e) (by rw [ep]; exact Nat.le_refl _)
      ⟨by rw [List.length_map, sizeLine_eq]; omega, _, 0, rels recs, by rw [← ep]; exact Heap.get?_push_size _ rfl⟩
    refine store_ok (v := V.ref p) I2 hND hNw (locB_of A.hsc h6) rfl (fun s2 I3 => ?_) (.inl (A.fn _))
    have I4 := MiniL.inv_tr I3
    have A' := amb_tr (pn := MiniL.pinsOf X recs) A.toAmb
    have hu : X.A.units + 65 < cLine := by have := A.room.un; omega
    have hu2 : X.A.units + 1 < cLine := by omega
    have hvw : Vis X.env.scope x3 := vis_of A.hsc (by unfold vis; unfold locB at h6; rw [h6]; rfl)
    have hvk : Vis X.env.scope y2 := vis_of A.hsc (by unfold vis; unfold locB at h7; rw [h7]; rfl)
    have pvw : PE (X.tr (X.pn ++ MiniL.pinsOf X recs) X.xe) (.Name x3 xp3) (tVar w) := pe_var hNw hvw k7 k8
    have pvw' : PE (X.tr (X.pn ++ MiniL.pinsOf X recs) X.xe) (.Name x3 xp2) (tVar w) := pe_var hNw hvw k7 k8
    have pvk : PE (X.tr (X.pn ++ MiniL.pinsOf X recs) X.xe) (.Name y2 yp2) (tVar k) := pe_var hNk hvk k9 k10
    have hcall := MiniL.pe_toldv (X := X.tr (X.pn ++ MiniL.pinsOf X recs) X.xe) (TT := MiniL.TTq X.K c0v cvs1 cvs2) (rs := recs) (k := kk) (p := tp) (pos := tp2) (arg := .Subscript (.Name x3 xp3) (.Name y2 yp2) sp) (ta := tOp (rIx2 X.K) (tVar w) (tVar k)) A.stk gt1 a1 a2 a3 a4 a5 a6 a7 a8 a9 a10
      (fun r hr => by
        obtain ⟨z1, z2, z3, z4⟩ := ml4 r.l (by rw [← el]; exact List.mem_map.mpr ⟨r, hr, rfl⟩)
        exact ⟨z1, z3, z4⟩)
      (fun r hr => List.mem_append_right _ (List.mem_map.mpr ⟨r, hr, rfl⟩))
      (pe_ix (ix_two (by exact hu2)) pvw pvk (by intro o i; rfl)) (by rfl) gt2 a11 a12
    have hrhs := ((der rhs (X.tr (X.pn ++ MiniL.pinsOf X recs) X.xe) Er W sc false L A').e r m1).1
    have pc := pt_cmpR (pos := cp) (op_cmp (X := X.tr (X.pn ++ MiniL.pinsOf X recs) X.xe) (by exact hu) .NotEq) hcall hrhs (not_in (by decide) (by decide))
    have hif := ps_if (pos := ip) pc (pss_one (ps_ret (pos := rp3) (pe_bl (X := X.tr (X.pn ++ MiniL.pinsOf X recs) X.xe) (pos := bq) (j := bj) (b := bb)))) pss_nil
    have plen : PE (X.tr (X.pn ++ MiniL.pinsOf X recs) X.xe) (.Call (.Name "len" np) [.Name x3 xp2] [] lp2) (tCB (rBlt X.K .len) (tCons (tVar w) tNil)) :=
      pe_callB (call_blt (X := X.tr (X.pn ++ MiniL.pinsOf X recs) X.xe) A.calm (by exact hu) .len) gl1 (L.blt _ gl3) (boot_blt .len) (pa_cons pvw' pa_nil (by rfl)) gl4 gl2 (by rfl) (by rfl)
    have hfor := ps_for (X := X.tr (X.pn ++ MiniL.pinsOf X recs) X.xe) (pos := fp) (tg := .Name y2 yp) (iter := .Call (.Name "range" rp) [.Call (.Name "len" np) [.Name x3 xp2] [] lp2] [] rp2) A.po A.calm (pi_range1 gr1 (L.blt _ gr3) (pa_cons plen pa_nil (by rfl))) (pg_name hND hNk (locB_of A.hsc h7) (.inl (A.fn _))) (pss_one hif)
    refine thn ((pss_one hfor).run pins s2 _ _ Dn I4 ?ht) ?hrest
    case hrest =>
      intro f s3 hq
      cases f with
      | next => obtain ⟨σ', H', z1, z2⟩ := hq; exact ⟨σ', H', MiniL.inv_untr z1, z2⟩
      | brk => obtain ⟨σ', H', z1, z2⟩ := hq; exact ⟨σ', H', MiniL.inv_untr z1, z2⟩
      | cont => obtain ⟨σ', H', z1, z2⟩ := hq; exact ⟨σ', H', MiniL.inv_untr z1, z2⟩
      | ret u => obtain ⟨v, σ', H', z1, z2⟩ := hq; exact ⟨v, σ', H', MiniL.inv_untr z1, z2⟩
    case ht =>
      refine ⟨.ref p, List.getElem?_set_self hlw, .inr ⟨p, _, rfl, .inl (SqL.of upd_same), ?_⟩⟩
      refine ⟨_, rfl, by omega, by rw [List.length_map]; omega, ?_⟩
      have en : ((((recs.map fun r => V.ref r.f).length : Nat) : Int)).toNat = recs.length := by rw [List.length_map]; exact Int.toNat_natCast _
      rw [en]
      have npC : p ∉ C := fun z => by
        obtain ⟨o, z1, z2⟩ := gd.pre.cellH p z
        have := e1 p o z1 z2.nt
        rw [hf] at this
        cases this
      obtain ⟨l0, p0⟩ := pre_ext gd.pre (e1.trans (extN_upd (o := .lst (recs.map fun r => V.ref r.f)) hf)) (tabs_upd hf T1)
      refine for_range (lo := 0) (n := recs.length) (fun i σ2 H2 => σ2[w]? = some (some (.ref p)) ∧ H2 p = some (.lst (recs.map fun r => V.ref r.f)) ∧ (∀ r, r ∈ recs → H2 r.c = some (LamX.CodeO r.c (X.env.qual ++ "<lambda>"))) ∧
        ∃ C δ, Good X.K Tb M0 C0 H0 Gh C σ σ2 H2 δ ∧ p ∉ C ∧ OPost Er Tb M0 C0 H0 Gh W Dn (lamsGo P k nm.lcs rhs σ (tlE es i) i δ)) ?h0 ?hs ?hd
      case h0 =>
        refine ⟨List.getElem?_set_self hlw, upd_same, fun r hr => ?_, C, δ, (gd.step l0 p0).free ew, npC, ?_⟩
        · rw [upd_ne (fun z => by have := hco r hr; rw [z, hf] at this; cases this)]
          exact hco r hr
        · have e : tlE es 0 = es := by cases es <;> rfl
          rw [e]
          exact q
      case hd =>
        rintro σ2 H2 ⟨z1, z2, z3, C2, δ2, g2, np, q2⟩
        have e : recs.length = ls.length := by rw [← el, List.length_map]
        rw [e, ml3] at q2
        exact q2 C2 σ2 H2 g2
      case hs =>
        rintro i σ2 H2 hi ⟨z1, z2, z3, C2, δ2, g2, np, q2⟩
        have e0 : (0 + (i : Int)) = i := by omega
        rw [e0]
        have g3 := g2.free (v := .int i) ek
        have hr1 : recs[i]? = some recs[i] := List.getElem?_eq_getElem hi
        have hrm : recs[i] ∈ recs := List.getElem_mem hi
        generalize recs[i] = r at hr1 hrm
        obtain ⟨a0, b0, t1, t2, t3⟩ := ml2 i r.l (by rw [← el, List.getElem?_map, hr1]; rfl)
        rw [t1] at q2
        have q3 : OPost Er Tb M0 C0 H0 Gh W Dn (match (evA' P a0).v σ δ2 with
          | .ex c _ δ => if nm.lcs.contains c then (match (evA' P rhs).v (σ.set k (some (.int i))) δ with
            | .ok d δ => if cmpD .NotEq (.lst ((nm.lcs.map fun x => .bl (decide (x = c))) ++ [.bl true])) d = some false then lamsGo P k nm.lcs rhs σ b0 (i + 1) δ else .bad
            | _ => .bad) else .bad
          | _ => .bad) := q2
        clear q2
        have hl2w : w < σ2.length := by rw [← g2.sl.len]; exact (List.getElem?_eq_some_iff.mp ew).1
        have hl2k : k < σ2.length := by rw [← g2.sl.len]; exact (List.getElem?_eq_some_iff.mp ek).1
        have gw : (σ2.set k (some (V.int i)))[w]? = some (some (.ref p)) := by rw [List.getElem?_set_ne (Ne.symm hwk)]; exact z1
        have gk : (σ2.set k (some (V.int i)))[k]? = some (some (.int i)) := List.getElem?_set_self hl2k
        show tIfS _ _ _ _ (σ2.set k (some (V.int i))) H2
        generalize σ2.set k (some (V.int i)) = σ3 at g3 gw gk
        cases ea : (evA' P a0).v σ δ2 with
        | bad => rw [ea] at q3; exact q3.elim
        | ok d δ3 => rw [ea] at q3; exact q3.elim
        | ex c1 pl δ3 =>
          rw [ea] at q3
          simp only at q3
          split at q3
          case isFalse => exact q3.elim
          rename_i hc1
          cases er : (evA' P rhs).v (σ.set k (some (.int i))) δ3 with
          | bad => rw [er] at q3; exact q3.elim
          | ex _ _ _ => rw [er] at q3; exact q3.elim
          | ok d δ4 =>
            rw [er] at q3
            simp only at q3
            split at q3
            case isFalse => exact q3.elim
            rename_i hcmp
            refine ⟨.ref p, gw, .int i, gk, .inl (.inl ⟨p, _, i, .ref r.f, rfl, rfl, SqL.of z2, atI_natL (by rw [List.getElem?_map, hr1]; rfl), r, hrm, rfl, z3 r hrm, ?_⟩)⟩
            show r.l.t _ σ3 H2 _
            rw [t3]
            refine (sn a0).v (fun cls d _ H => MiniL.wIs X.K c0v cvs1 cvs2 _ cls d H) C2 _ σ δ2 σ3 H2 _ g3.pre g3.sl ?_
            rw [ea]
            intro C' H' cls d' l' p' xr
            obtain ⟨Dd, bs1, bs2, f1, f2, f3, f4, f5, f6⟩ := kits c1 (by simpa using hc1)
            have hbl : bs1.length + bs2.length ≤ 1000 := by
              have := congrArg List.length f6
              rw [List.length_append, List.length_append, List.length_map] at this
              have e : [true].length = 1 := rfl
              omega
            refine ⟨Dd, bs1, bs2, xr.2.1.trans f1, f2, by rw [xr.2.1]; exact f3, by rw [xr.2.1]; exact f4, by rw [xr.2.1]; exact f5, hbl, fun dd ed => ?_, fun p1 p2 pr n1 n2 n3 => ?_⟩
            · have x3 := xr.2.2
              cases pl with
              | nil => rw [show d' = none from x3] at ed; cases ed
              | cons t r =>
                obtain ⟨dd2, v, y1, y2, _⟩ := x3
                rw [y1] at ed
                cases ed
                exact ⟨_, y2⟩
            · have nr : H' pr = none := by
                have a1 : pr ≠ p2 := fun z => by rw [z, upd_same] at n3; cases n3
                rw [upd_ne a1] at n3
                have a2 : pr ≠ p1 := fun z => by rw [z, upd_same] at n3; cases n3
                rwa [upd_ne a2] at n3
              obtain ⟨l5, p5⟩ := pre_ext p' (((extN_upd n1).trans (extN_upd n2)).trans (extN_upd (o := .lst (bs1.map V.bl ++ bs2.map V.bl)) n3)) (tabs_upd n3 (tabs_upd n2 (tabs_upd n1 p'.tabs)))
              have eH5 : (upd (upd (upd H' p1 (.lst (bs1.map V.bl))) p2 (.lst (bs2.map V.bl))) pr (.lst (bs1.map V.bl ++ bs2.map V.bl))) pr = some (.lst (bs1.map V.bl ++ bs2.map V.bl)) := upd_same
              generalize (upd (upd (upd H' p1 (.lst (bs1.map V.bl))) p2 (.lst (bs2.map V.bl))) pr (.lst (bs1.map V.bl ++ bs2.map V.bl))) = H5 at l5 p5 eH5
              have nrC : pr ∉ C' := fun z => by
                obtain ⟨o, z1, z2⟩ := p'.cellH pr z
                rw [nr] at z1
                cases z1
              have nrM : ¬ MM M0 σ σ3 pr := fun z => by
                obtain ⟨o, z1, z2⟩ := p'.mh pr z
                rw [nr] at z1
                cases z1
              have s5 : Sl X.K C' (MM M0 σ σ3) H5 (σ.set k (some (.int i))) σ3 := by
                have s4 := (g3.sl.le g3.pre l').le p' l5
                refine ⟨by rw [List.length_set, s4.len], fun j e hj => ?_⟩
                by_cases hjk : k = j
                · subst hjk
                  rw [List.getElem?_set_self (by rw [s4.len]; exact (List.getElem?_eq_some_iff.mp gk).1)] at hj
                  cases hj
                  exact ⟨_, gk, mk_int.repS⟩
                · rw [List.getElem?_set_ne hjk] at hj
                  exact s4.at_ j e hj
              refine (sn rhs).v W C' _ (σ.set k (some (.int i))) δ3 σ3 H5 _ p5 s5 ?_
              rw [er]
              intro C6 H6 l6 p6 y ry _
              have e6 : H6 pr = some (.lst (bs1.map V.bl ++ bs2.map V.bl)) := l6.ext pr _ eH5 nrC (fun ps z => by cases z)
              have n6 : pr ∉ C6 := l6.notin eH5 (fun ps z => by cases z) nrC
              have rx : RepS X.K C6 (MM M0 σ σ3) H6 (.lst ((nm.lcs.map fun x => .bl (decide (x = c1))) ++ [.bl true])) (.ref pr) := by
                refine Rep.repS ?_
                unfold Rep
                refine ⟨pr, _, rfl, nrM, n6, e6, ?_⟩
                rw [← List.map_append, f6, List.map_append, List.map_map]
                have := repL_bls (K := X.K) (C := C6) (M := MM M0 σ σ3) (H := H6) ((nm.lcs.map fun y => decide (y = c1)) ++ [true])
                rw [List.map_append, List.map_append, List.map_map, List.map_map] at this
                exact this
              refine cmp_ok hcmp rx ry ⟨false, rfl, ?_⟩
              have np' : p ∉ C' := l'.notin z2 (fun ps z => by cases z) np
              have hp5 : H5 p = some (.lst (recs.map fun r => V.ref r.f)) := l5.ext p _ (l'.ext p _ z2 np (fun ps z => by cases z)) np' (fun ps z => by cases z)
              refine ⟨gw, l6.ext p _ hp5 np' (fun ps z => by cases z), fun r' hr' => ?_, C6, δ4, g3.step (l'.trans (l5.trans l6)) p6, l6.notin hp5 (fun ps z => by cases z) np', ?_⟩
              · have c2 := codeO_co g3.pre.cellH (z3 r' hr')
                exact (l'.trans (l5.trans l6)).ext _ _ (z3 r' hr') c2 codeO_nt
              · rw [t2]
                exact q3
  · exact absurd h Bool.false_ne_true
end
end Mini

namespace Mini
open PySem PySem.Spec PyProof.Rows L2
theorem get_list {X : Cx} : PGet X (rIxL X.K) := by
  intro pins s σ H x y v u Q I rx ry h
  obtain ⟨p, xs, i, z, rfl, rfl, hq, he, q⟩ := h
  cases rx
  obtain ⟨t, rfl⟩ := ry
  obtain ⟨its, r, pl, hz⟩ := I.list hq
  obtain ⟨j, h1, h2, h3, h4, h5⟩ := atI_get he
  obtain ⟨w, ew, rw'⟩ := r.get h2
  have hl := r.length
  have hn := line63
  have fin : EP X pins σ Q w s := ⟨z, H, I, rw', q⟩
  by_cases h0 : 0 ≤ i
  · have hj : i.toNat = j := by
      rw [seqIndex_of h0 h5] at h1
      exact Option.some.inj h1
    exact wpAny_getItem_list pl.isList h0 (by omega) (by rw [hj]; simpa using ew) fin
  · have hj : (i + (its.toArray.size : Int)).toNat = j := by
      rw [seqIndex_neg (by omega) h4] at h1
      rw [List.size_toArray, ← hl]
      exact Option.some.inj h1
    exact wpAny_getItem_list_neg pl.isList (by omega) (by rw [List.size_toArray] <;> omega) (by omega) (by rw [hj]; simpa using ew) fin
structure DerS (nm : Nm) (rs : List Str) {P : Par} (X : Cx) (Er : Errs X.K P.X) (Tb : List (Addr × Str)) (Gv : Nat → V) (W : WX) (sc : Scope) (tl : Bool) (m : S) : Prop where
  s : ∀ st, (mtS nm rs m).s tl sc st = true → PS X st (rdS P Er Tb Gv W m)
  b : ∀ l, (mtS nm rs m).b tl sc l = true → PSs X l (rdS P Er Tb Gv W m)
section
variable {nm : Nm} {kk : Nat} {P : Par} {Tb : List (Addr × Str)} {Gv : Nat → V} {rs : List Str}
def DerSAll (nm : Nm) (kk : Nat) (P : Par) (Tb : List (Addr × Str)) (Gv : Nat → V) (rs : List Str) (m : S) : Prop := ∀ (X : Cx) (Er : Errs X.K P.X) (W : WX) (sc : Scope) (tl : Bool), Lib P Er Tb Gv nm kk X.prog X.w X.mg X.base → AmbS nm kk Tb Er.xv rs X sc W tl → DerS nm rs X Er Tb Gv W sc tl m
theorem derS_st {m : S} {X : Cx} {Er : Errs X.K P.X} {W : WX} {sc : Scope} {tl : Bool} (h : ∀ l, (mtS nm rs m).b tl sc l = false) (hs : ∀ st, (mtS nm rs m).s tl sc st = true → PS X st (rdS P Er Tb Gv W m)) : DerS nm rs X Er Tb Gv W sc tl m :=
  ⟨hs, fun l z => absurd (z.symm.trans (h l)) (by decide)⟩
variable {X : Cx} {Er : Errs X.K P.X} {W : WX} {sc : Scope} {tl : Bool}
theorem swD_true {kx vx : Expr} {gs : List Comprehension} {scope : Scope} {pos py : Pos} {y : Str} {l : Nat} {env : Env} (hk : env.scope.kind = .function) (hy : env.scope.names.lookup y = some .local) (hl : (py.line == pos.line) = true)
    (ha : (scope.names.any fun (n, k) => n == y && (k == .local || k == .cell)) = false) : swapsWith (.DictComp kx vx gs scope pos) (some (.Name y py)) l env = pure true := by
  have ky : env.kindOf y = some .local := hy
  have hb : env.blockKind = .function := by unfold Env.blockKind; rw [hk]; rfl
  unfold swapsWith
  simp only [hb, ky, ha, Expr.pos, hl]
  rfl
theorem asg_ok {e : E} {g : G} {tg v : Expr} {pos : Pos} (L : Lib P Er Tb Gv nm kk X.prog X.w X.mg X.base) (A : AmbS nm kk Tb Er.xv rs X sc W tl)
    (h : ((mt nm e).e tl sc v && mtGS nm sc g tg && asgC e sc v tg && swOk sc tg v) = true) : PS X (.Assign [tg] v pos) (tAsg (rd P Er Tb Gv e W).v (gK X.K g)) := by
  rw [Bool.and_eq_true, Bool.and_eq_true, Bool.and_eq_true] at h
  obtain ⟨⟨⟨h1, h2⟩, h3⟩, h5⟩ := h
  have hN : X.N.Nodup := by rw [A.N]; exact A.nd
  have pe := (der e X Er W sc tl L A.toAmb).e v h1
  have pg := pg_ofS A.fn A.calm A.N A.nd A.hsc h2
  cases hcm : compE v with
  | true =>
    unfold asgC at h3
    rw [hcm, if_pos rfl, Bool.and_eq_true] at h3
    obtain ⟨h3, hsw⟩ := h3
    cases e <;> first | exact absurd h3 Bool.false_ne_true | skip
    case uni vs g' k it c vs1 g1 k1 it1 c1 e =>
    obtain ⟨kx, b, kn, p1, tg2, iter, ifs, tg1, iter1, ifs1, csc, p, e1⟩ := uni_form h1
    subst e1
    cases tg <;> first | cases hsw | skip
    case Name x q =>
    have hsw' : (decide (sc.names.lookup x = some .local) && q.line == p.line && !(csc.names.any fun (n, k) => n == x && (k == .local || k == .cell))) = true := hsw
    rw [Bool.and_eq_true, Bool.and_eq_true, Bool.not_eq_true'] at hsw'
    obtain ⟨⟨s1, s2⟩, s3⟩ := hsw'
    cases g with
    | tup is => cases h2
    | nst is i => cases h2
    | name i =>
      have h2' : (decide (nm.N[i]? = some x) && locB sc x) = true := h2
      rw [Bool.and_eq_true] at h2'
      have hl : X.env.scope.names.lookup x = some .local := by rw [A.hsc]; exact of_decide_eq_true s1
      obtain ⟨q0, q1, q2, q3, q4, q5, q6, q7, q8, q9, q10, q11, q12⟩ := uni_parts (der it) (der c) (der it1) (der c1) (der e) L A.toAmb h1
      subst q0
      have := DW2.ps_dc2 (spos := pos) (pos := p) (py := q) (vx := .Constant (.bool true) kn p1) (tv := tC (.bl true)) (isN_ A.N h2'.1) hl (swD_true (by rw [A.hsc]; exact A.kind) hl s2 s3) A.calm hN q1 q2 q4 q5 q6 q7 (fun s H C cl fp => pe_bl) q8 q9 q10 q11 q12
      rw [q3] at this
      exact this
  | false =>
  have h4 : (!(swB sc v tg) || isLc e) = true := by
    unfold asgC at h3
    rw [hcm] at h3
    exact h3
  clear h3
  have h3 := hcm
  cases hsw : swB sc v tg with
  | false =>
    cases g with
    | name i =>
      cases tg <;> first | cases h2 | skip
      case Name x p =>
      have h2' : (decide (nm.N[i]? = some x) && locB sc x) = true := h2
      rw [Bool.and_eq_true] at h2'
      exact ps_set hN (isN_ A.N h2'.1) (locB_of A.hsc h2'.2) pe.1 (swB_of (nm := nm) (l := pos.line) A.hsc A.kind h3 hsw (.inr (.inl ⟨_, _, rfl⟩))) (.inl (A.fn x))
    | tup is =>
      cases tg <;> first | cases h2 | skip
      case Tuple es k p =>
      exact ps_asg pe.1 pg (swB_of (nm := nm) (l := pos.line) A.hsc A.kind h3 hsw (.inr (.inr ⟨_, _, _, rfl⟩))) (swOk_of A.hsc A.kind h5)
    | nst is i =>
      cases tg <;> first | cases h2 | skip
      case Tuple es k p =>
      exact ps_asg pe.1 pg (swB_of (nm := nm) (l := pos.line) A.hsc A.kind h3 hsw (.inr (.inr ⟨_, _, _, rfl⟩))) (swOk_of A.hsc A.kind h5)
  | true =>
    rw [hsw] at h4
    have h4' : isLc e = true := by simpa using h4
    clear h4
    cases e <;> first | exact absurd h4' Bool.false_ne_true | skip
    case lc vs g' k it c e =>
    obtain ⟨elt, tg2, iter, ifs, csc, p, e1⟩ := lc_form h1
    subst e1
    cases tg <;> first | cases hsw | skip
    case Name x q =>
    have hsw' : (decide (sc.names.lookup x = some .local) && q.line == p.line && !(csc.names.any fun (n, k) => n == x && (k == .local || k == .cell))) = true := hsw
    rw [Bool.and_eq_true, Bool.and_eq_true, Bool.not_eq_true'] at hsw'
    obtain ⟨⟨s1, s2⟩, s3⟩ := hsw'
    cases g with
    | tup is => cases h2
    | nst is i => cases h2
    | name i =>
      have h2' : (decide (nm.N[i]? = some x) && locB sc x) = true := h2
      rw [Bool.and_eq_true] at h2'
      have hl : X.env.scope.names.lookup x = some .local := by rw [A.hsc]; exact of_decide_eq_true s1
      obtain ⟨q1, q2, q3, q4, q5, q6⟩ := lc_parts (der it) (der c) (der e) L A.toAmb h1
      have := ps_setLc (spos := pos) (pos := p) (py := q) A.calm hN (isN_ A.N h2'.1) hl (sw_true (by rw [A.hsc]; exact A.kind) hl s2 s3) q1 q2 q4 q5 q6 (fold_of (lc_iter h1))
      rw [q3] at this
      exact this
theorem list_ok {i : Nat} {name : Str} {f : List Expr → Bool} {st : Stmt} (A : Amb nm kk Tb Er.xv X sc W tl) (h : listM nm sc i name f st = true) : ∃ (x : Str) (p apos cpos pos : Pos) (es : List Expr), st = .Expr (.Call (.Attribute (.Name x p) name apos) es [] cpos) pos ∧
    PE X (.Name x p) (tVar i) ∧ (apos.endLine == cpos.line) = true ∧ f es = true := by
  cases st <;> first | cases h | skip
  case Expr v pos =>
  cases v <;> first | cases h | skip
  case Call fe es kw cpos =>
  cases fe <;> first | cases h | skip
  case Attribute o n apos =>
  cases o <;> first | cases h | skip
  case Name x p =>
  cases kw <;> first | cases h | skip
  have h' : (decide (nm.N[i]? = some x) && vis sc x && !(x == dbg) && !(x == ("__classdict__" : Str)) && decide (n = name) && (apos.endLine == cpos.line) && f es) = true := h
  rw [Bool.and_eq_true, Bool.and_eq_true, Bool.and_eq_true, Bool.and_eq_true, Bool.and_eq_true, Bool.and_eq_true, Bool.not_eq_true', Bool.not_eq_true'] at h'
  obtain ⟨⟨⟨⟨⟨⟨h1, h2⟩, h3⟩, h4⟩, h5⟩, h6⟩, h7⟩ := h'
  have e5 : n = name := of_decide_eq_true h5
  subst e5
  exact ⟨x, p, apos, cpos, pos, es, rfl, pe_var (isN_ A.N h1) (vis_of A.hsc h2) h3 h4, h6, h7⟩
theorem raise_ok {c : Str} {st : Stmt} (A : AmbS nm kk Tb Er.xv rs X sc W tl) (h : raisM rs sc c st = true) : PS X st (fun _ σ H => W (Er.xv c) none σ H) := by
  cases st <;> first | cases h | skip
  case Raise ex cause pos =>
  rcases ex with _ | ex
  · cases cause <;> cases h
  cases ex <;> first | (cases cause <;> cases h) | skip
  case Call fe es kw cpos =>
  cases fe <;> first | (cases cause <;> cases h) | skip
  case Name x p =>
  rcases es with _ | ⟨a, _ | ⟨_, _⟩⟩
  · cases cause <;> cases h
  · cases a <;> first | (cases cause <;> cases h) | skip
    case Constant k j p2 =>
    cases k <;> first | (cases cause <;> cases h) | skip
    case str m =>
    cases kw with
    | cons _ _ => cases cause <;> cases h
    | nil =>
    cases cause with
    | some _ => cases h
    | none =>
    have h' : (decide (x = c) && rs.contains c && gl sc x) = true := h
    rw [Bool.and_eq_true, Bool.and_eq_true] at h'
    obtain ⟨⟨h1, h2⟩, h3⟩ := h'
    have e1 : x = c := of_decide_eq_true h1
    subst e1
    obtain ⟨g1, g2⟩ := gl_of A.hsc h3
    obtain ⟨C, v1, v2, v3, v4, v5, v6⟩ := (A.rs x (by simpa using h2)).ex
    rw [v1]
    exact ps_raise A.calm A.tk (pmk_own PySem.F.excBase_ValueError v4 v2 v3 (raises_own v5 v6) g1 g2)
  · cases a <;> first | (cases cause <;> cases h) | skip
    case Constant k j p2 => cases k <;> cases kw <;> cases cause <;> cases h
theorem nodup2 {i j : Nat} (h : [i, j].Nodup) : i ≠ j := by
  rw [List.nodup_cons] at h
  exact fun z => h.1 (by simp [z])
theorem par_der {is : List Nat} {a : E} {ts vs : List Expr} {k1 k2 : Nat} {p1 p2 pos : Pos} (L : Lib P Er Tb Gv nm kk X.prog X.w X.mg X.base) (A : AmbS nm kk Tb Er.xv rs X sc W tl)
    (h : (decide (ts.length = 2 ∨ ts.length = 3) && decide (is.Nodup) && mtIs nm sc is ts && isPar sc ts vs && (mt nm a).a tl sc vs) = true) : PS X (.Assign [.Tuple ts k1 p1] (.Tuple vs k2 p2) pos) (tParL is (rd P Er Tb Gv a W).a) := by
  rw [Bool.and_eq_true, Bool.and_eq_true, Bool.and_eq_true, Bool.and_eq_true] at h
  obtain ⟨⟨⟨⟨g1, g2⟩, h3⟩, h4⟩, h5⟩ := h
  have hN : X.N.Nodup := by rw [A.N]; exact A.nd
  have h1 := of_decide_eq_true g1
  have h2 := of_decide_eq_true g2
  clear g1 g2
  have pa := (der a X Er W sc tl L A.toAmb).a vs h5
  have hw : swappedStores [.Tuple ts k1 p1] (.Tuple vs k2 p2) X.env = pure (some (namesE ts)) := swT_of A.hsc A.kind (of_decide_eq_true h4)
  have hlen : vs.length = ts.length := by
    have h4' := of_decide_eq_true h4
    unfold swT at h4'
    split at h4'
    · cases h4'
    · rename_i hq
      simp only [Bool.or_eq_true, not_or] at hq
      simpa using hq.2
  have lk : ∀ {x : Str}, decide (sc.names.lookup x = some .local) = true → X.env.scope.names.lookup x = some .local := fun h => by rw [A.hsc]; exact of_decide_eq_true h
  rcases ts with _ | ⟨t1, _ | ⟨t2, _ | ⟨t3, _ | ⟨_, _⟩⟩⟩⟩
  · simp at h1
  · simp at h1
  · rcases is with _ | ⟨i, _ | ⟨j, _ | ⟨_, _⟩⟩⟩
    · cases h3
    · cases t1 <;> first | cases h3 | skip
      case Name => simp [mtIs] at h3
    · cases t1 <;> first | cases h3 | skip
      case Name x q =>
      cases t2 <;> first | (simp [mtIs] at h3; done) | skip
      case Name y q2 =>
      have h3' : (decide (nm.N[i]? = some x) && decide (sc.names.lookup x = some .local) && (decide (nm.N[j]? = some y) && decide (sc.names.lookup y = some .local) && true)) = true := h3
      rw [Bool.and_eq_true, Bool.and_eq_true, Bool.and_eq_true, Bool.and_eq_true] at h3'
      obtain ⟨⟨x1, x2⟩, ⟨y1, y2⟩, _⟩ := h3'
      rcases vs with _ | ⟨a1, _ | ⟨a2, _ | ⟨_, _⟩⟩⟩
      · simp at hlen
      · simp at hlen
      · refine ⟨fun pins s σ H D I q => (ps_par A.calm hN (isN_ A.N x1) (isN_ A.N y1) (nodup2 h2) (lk x2) (lk y2) pa hw).run pins s σ H D I ?_⟩
        have q' : (rd P Er Tb Gv a W).a σ H fun vs H1 => vs.length = 2 ∧ D.nx (setAll σ [i, j] vs) H1 := q
        have e : (fun (vs : List V) H1 => vs.length = 2 ∧ D.nx (setAll σ [i, j] vs) H1) = fun vs H1 => ∃ v w, vs = [v, w] ∧ D.nx ((σ.set i (some v)).set j (some w)) H1 := by
          funext vs H1
          apply propext
          constructor
          · rintro ⟨l, d⟩
            rcases vs with _ | ⟨v, _ | ⟨w, _ | ⟨_, _⟩⟩⟩
            · simp at l
            · simp at l
            · exact ⟨v, w, rfl, d⟩
            · simp at l
          · rintro ⟨v, w, rfl, d⟩
            exact ⟨rfl, d⟩
        rw [e] at q'
        exact q'
      · simp at hlen
    · cases t1 <;> first | cases h3 | skip
      case Name => cases t2 <;> simp [mtIs] at h3
  · rcases is with _ | ⟨i, _ | ⟨j, _ | ⟨l, _ | ⟨_, _⟩⟩⟩⟩
    · cases h3
    · cases t1 <;> first | cases h3 | skip
      case Name => simp [mtIs] at h3
    · cases t1 <;> first | cases h3 | skip
      case Name => cases t2 <;> simp [mtIs] at h3
    · cases t1 <;> first | cases h3 | skip
      case Name x q =>
      cases t2 <;> first | (simp [mtIs] at h3; done) | skip
      case Name y q2 =>
      cases t3 <;> first | (simp [mtIs] at h3; done) | skip
      case Name z q3 =>
      have h3' : (decide (nm.N[i]? = some x) && decide (sc.names.lookup x = some .local) && (decide (nm.N[j]? = some y) && decide (sc.names.lookup y = some .local) && (decide (nm.N[l]? = some z) && decide (sc.names.lookup z = some .local) && true))) = true := h3
      rw [Bool.and_eq_true, Bool.and_eq_true, Bool.and_eq_true, Bool.and_eq_true, Bool.and_eq_true, Bool.and_eq_true] at h3'
      obtain ⟨⟨x1, x2⟩, ⟨y1, y2⟩, ⟨z1, z2⟩, _⟩ := h3'
      have n1 : i ≠ j := fun e => by subst e; simp at h2
      have n2 : i ≠ l := fun e => by subst e; simp at h2
      have n3 : j ≠ l := fun e => by subst e; simp at h2
      rcases vs with _ | ⟨a1, _ | ⟨a2, _ | ⟨a3, _ | ⟨_, _⟩⟩⟩⟩
      · simp at hlen
      · simp at hlen
      · simp at hlen
      · refine ⟨fun pins s σ H D I q => (ps_par3 A.calm hN (isN_ A.N x1) (isN_ A.N y1) (isN_ A.N z1) n1 n2 n3 (lk x2) (lk y2) (lk z2) pa hw).run pins s σ H D I ?_⟩
        have q' : (rd P Er Tb Gv a W).a σ H fun vs H1 => vs.length = 3 ∧ D.nx (setAll σ [i, j, l] vs) H1 := q
        have e : (fun (vs : List V) H1 => vs.length = 3 ∧ D.nx (setAll σ [i, j, l] vs) H1) = fun vs H1 => ∃ u v w, vs = [u, v, w] ∧ D.nx (((σ.set i (some u)).set j (some v)).set l (some w)) H1 := by
          funext vs H1
          apply propext
          constructor
          · rintro ⟨l, d⟩
            rcases vs with _ | ⟨u, _ | ⟨v, _ | ⟨w, _ | ⟨_, _⟩⟩⟩⟩
            · simp at l
            · simp at l
            · simp at l
            · exact ⟨u, v, w, rfl, d⟩
            · simp at l
          · rintro ⟨u, v, w, rfl, d⟩
            exact ⟨rfl, d⟩
        rw [e] at q'
        exact q'
      · simp at hlen
    · cases t1 <;> first | cases h3 | skip
      case Name => cases t2 <;> first | (simp [mtIs] at h3; done) | (cases t3 <;> simp [mtIs] at h3)
  · simp at h1
theorem derS : ∀ m : S, DerSAll nm kk P Tb Gv rs m
  | .skip => fun X Er W sc tl L A => ⟨fun st h => (by cases h), fun l h => by
    cases l with
    | nil => exact pss_nil
    | cons _ _ => cases h⟩
  | .seq a b => fun X Er W sc tl L A => ⟨fun st h => (by cases h), fun l h => by
    cases l with
    | nil => cases h
    | cons x r =>
      have h' : ((mtS nm rs a).s tl sc x && (mtS nm rs b).b tl sc r) = true := h
      rw [Bool.and_eq_true] at h'
      exact pss_cons ((derS a X Er W sc tl L A).s x h'.1) ((derS b X Er W sc tl L A).b r h'.2)⟩
  | .frz i a => fun X Er W sc tl L A => ⟨(derS a X Er W sc tl L A).s, (derS a X Er W sc tl L A).b⟩
  | .pass => fun X Er W sc tl L A => derS_st (fun _ => rfl) fun st h => by
    cases st <;> first | exact ps_pass | cases h
  | .brk => fun X Er W sc tl L A => derS_st (fun _ => rfl) fun st h => by
    cases st <;> first | exact ps_break | cases h
  | .cont => fun X Er W sc tl L A => derS_st (fun _ => rfl) fun st h => by
    cases st <;> first | exact ps_continue | cases h
  | .expr e => fun X Er W sc tl L A => derS_st (fun _ => rfl) fun st h => by
    cases st <;> first | cases h | skip
    case Expr v p =>
    have h' : ((mt nm e).e tl sc v && !(compE v) && !(lcE v)) = true := h
    rw [Bool.and_eq_true, Bool.and_eq_true, Bool.not_eq_true', Bool.not_eq_true'] at h'
    refine ps_expr ((der e X Er W sc tl L A.toAmb).e v h'.1.1).1 ?_
    obtain ⟨⟨_, h1⟩, h2⟩ := h'
    cases v <;> first | rfl | (exact absurd h1 Bool.noConfusion) | (exact absurd h2 Bool.noConfusion)
  | .asg g e => fun X Er W sc tl L A => derS_st (fun _ => rfl) fun st h => by
    cases st <;> first | cases h | skip
    case Assign tgs v p =>
    rcases tgs with _ | ⟨tg, _ | ⟨_, _⟩⟩ <;> first | cases h | skip
    exact asg_ok L A h
  | .asgO i e => fun X Er W sc tl L A => derS_st (fun _ => rfl) fun st h => by
    cases st <;> first | cases h | skip
    case Assign tgs v p =>
    rcases tgs with _ | ⟨tg, _ | ⟨_, _⟩⟩ <;> first | cases h | skip
    exact asg_ok (g := .name i) L A h
  | .par is a => fun X Er W sc tl L A => derS_st (fun _ => rfl) fun st h => by
    cases st <;> first | cases h | skip
    case Assign tgs v p =>
    rcases tgs with _ | ⟨tg, _ | ⟨_, _⟩⟩ <;> first | cases h | skip
    · cases tg <;> first | cases h | skip
      case Tuple ts k1 p1 =>
      cases v <;> first | cases h | skip
      case Tuple vs k2 p2 => exact par_der L A h
    · cases tg <;> first | cases h | skip
  | .asgT is a => fun X Er W sc tl L A => derS_st (fun _ => rfl) fun st h => by
    cases st <;> first | cases h | skip
    case Assign tgs v pos =>
    rcases tgs with _ | ⟨tg, _ | ⟨_, _⟩⟩ <;> first | cases h | skip
    · cases v <;> first | cases h | skip
      case Tuple vs k2 p2 =>
      have h' : ((mt nm a).a tl sc vs && mtGS nm sc (.tup (is.map (·.1))) tg && !(swB sc (.Tuple vs k2 p2) tg) && swOk sc tg (.Tuple vs k2 p2)) = true := h
      rw [Bool.and_eq_true, Bool.and_eq_true, Bool.and_eq_true, Bool.not_eq_true'] at h'
      obtain ⟨⟨⟨h1, h2⟩, h4⟩, h5⟩ := h'
      cases tg <;> first | cases h2 | skip
      case Tuple es k p =>
      exact ps_asg (pe_tup (pa_mono ((der a X Er W sc tl L A.toAmb).a vs h1))) (pg_ofS A.fn A.calm A.N A.nd A.hsc h2) (swB_of (nm := nm) (l := pos.line) A.hsc A.kind rfl h4 (.inr (.inr ⟨_, _, _, rfl⟩))) (swOk_of A.hsc A.kind h5)
  | .setx o ix e => fun X Er W sc tl L A => derS_st (fun _ => rfl) fun st h => by
    cases st <;> first | cases h | skip
    case Assign tgs v p =>
    rcases tgs with _ | ⟨tg, _ | ⟨_, _⟩⟩ <;> first | cases h | skip
    · cases tg <;> first | cases h | skip
      case Subscript x y q =>
      have h' : ((mt nm e).e tl sc v && (mt nm o).e tl sc x && (mt nm ix).e tl sc y) = true := h
      rw [Bool.and_eq_true, Bool.and_eq_true] at h'
      obtain ⟨⟨h1, h2⟩, h3⟩ := h'
      refine ps_asg ((der e X Er W sc tl L A.toAmb).e v h1).1 (pg_sub ((der o X Er W sc tl L A.toAmb).e x h2).1 ((der ix X Er W sc tl L A.toAmb).e y h3).1 set_list ?_) ?_ ?_
      · intro z
        cases y with
        | Slice l u s p => rw [mt_slice] at h3; cases h3
        | _ => rfl
      · cases v <;> rfl
      · cases v <;> rfl
    · cases tg <;> first | cases h | skip
  | .aug i o e => fun X Er W sc tl L A => derS_st (fun _ => rfl) fun st h => by
    cases st <;> first | cases h | skip
    case AugAssign tg op v p =>
    cases tg <;> first | cases h | skip
    case Name x q =>
    have h' : (decide (o = op) && decide (nm.N[i]? = some x) && locB sc x && (mt nm e).e tl sc v) = true := h
    rw [Bool.and_eq_true, Bool.and_eq_true, Bool.and_eq_true] at h'
    obtain ⟨⟨⟨h1, h2⟩, h3⟩, h4⟩ := h'
    have e1 : o = op := of_decide_eq_true h1
    subst e1
    exact ps_aug (by rw [A.N]; exact A.nd) (isN_ A.N h2) (locB_of A.hsc h3) ((der e X Er W sc tl L A.toAmb).e v h4).1 (op_aug o) (.inl (A.fn x))
  | .setf c i f e => fun X Er W sc tl L A => derS_st (fun _ => rfl) fun st h => by
    cases st <;> first | cases h | skip
    case Assign tgs v p =>
    rcases tgs with _ | ⟨tg, _ | ⟨_, _⟩⟩ <;> first | cases h | skip
    · cases tg <;> first | cases h | skip
      case Attribute o n q =>
      cases o <;> first | cases h | skip
      case Name x q2 =>
      have h' : (decide (n = f) && nm.fl.contains (c, f) && (mt nm (.var i)).e tl sc (.Name x q2) && (mt nm e).e tl sc v) = true := h
      rw [Bool.and_eq_true, Bool.and_eq_true, Bool.and_eq_true] at h'
      obtain ⟨⟨⟨h1, h2⟩, h3⟩, h4⟩ := h'
      have e1 := of_decide_eq_true h1
      subst e1
      obtain ⟨k1, k2⟩ := L.fls c n (by simpa using h2)
      exact IN.ps_fldC k1 k2 ((der (.var i) X Er W sc tl L A.toAmb).e _ h3).1 ((der e X Er W sc tl L A.toAmb).e v h4).1 (by cases v <;> rfl)
    · cases tg <;> first | cases h | skip
      case Attribute o n q => cases o <;> cases h
  | .augf c i f o e => fun X Er W sc tl L A => derS_st (fun _ => rfl) fun st h => by
    cases st <;> first | cases h | skip
    case AugAssign tg op v p =>
    cases tg <;> first | cases h | skip
    case Attribute ob n q =>
    cases ob <;> first | cases h | skip
    case Name x q2 =>
    have h' : (decide (o = op) && decide (n = f) && nm.fl.contains (c, f) && (mt nm (.var i)).e tl sc (.Name x q2) && (mt nm e).e tl sc v) = true := h
    rw [Bool.and_eq_true, Bool.and_eq_true, Bool.and_eq_true, Bool.and_eq_true] at h'
    obtain ⟨⟨⟨⟨h0, h1⟩, h2⟩, h3⟩, h4⟩ := h'
    have e0 := of_decide_eq_true h0
    subst e0
    have e1 := of_decide_eq_true h1
    subst e1
    obtain ⟨k1, k2⟩ := L.fls c n (by simpa using h2)
    exact IN.ps_fldaugC k1 k2 ((der (.var i) X Er W sc tl L A.toAmb).e _ h3).1 ((der e X Er W sc tl L A.toAmb).e v h4).1 (op_aug o)
  | .dsetd i k e => fun X Er W sc tl L A => derS_st (fun _ => rfl) fun st h => by
    obtain ⟨x, p, apos, cpos, pos, es, e1, pv, hl, hf⟩ := list_ok (Er := Er) A.toAmb h
    subst e1
    rcases es with _ | ⟨y, _ | ⟨z, _ | ⟨_, _⟩⟩⟩ <;> first | cases hf | skip
    have h' : ((mt nm k).e tl sc y && (mt nm e).e tl sc z) = true := hf
    rw [Bool.and_eq_true] at h'
    have hz : starEach [z] X.env = [(false, eval z X.env)] := star_cons (mt_ns h'.2)
    have hs : starEach [y, z] X.env = [(false, eval y X.env), (false, eval z X.env)] := by rw [star_cons (mt_ns h'.1), hz]
    exact ps_expr (DM.pe_setdI (by have := A.room.un; omega) pv ((der k X Er W sc tl L A.toAmb).e y h'.1).1 ((der e X Er W sc tl L A.toAmb).e z h'.2).1 (m2_of rfl hl hs))
  | .dput i k e => fun X Er W sc tl L A => derS_st (fun _ => rfl) fun st h => by
    cases st <;> first | cases h | skip
    case Assign tgs v p =>
    rcases tgs with _ | ⟨tg, _ | ⟨_, _⟩⟩ <;> first | cases h | skip
    · cases tg <;> first | cases h | skip
      case Subscript o y q =>
      cases o <;> first | cases h | skip
      case Name x q2 =>
      have h' : ((mt nm (.var i)).e tl sc (.Name x q2) && (mt nm k).e tl sc y && (mt nm e).e tl sc v) = true := h
      rw [Bool.and_eq_true, Bool.and_eq_true] at h'
      obtain ⟨⟨h1, h2⟩, h3⟩ := h'
      exact DM.ps_putI (by have := A.room.un; omega) ((der (.var i) X Er W sc tl L A.toAmb).e _ h1).1 ((der k X Er W sc tl L A.toAmb).e y h2).1 ((der e X Er W sc tl L A.toAmb).e v h3).1 (by cases v <;> rfl)
    · cases tg <;> first | cases h | skip
      case Subscript o y q => cases o <;> cases h
  | .app i e => fun X Er W sc tl L A => derS_st (fun _ => rfl) fun st h => by
    obtain ⟨x, p, apos, cpos, pos, es, e1, pv, hl, hf⟩ := list_ok (Er := Er) A.toAmb h
    subst e1
    rcases es with _ | ⟨y, _ | ⟨_, _⟩⟩ <;> first | cases hf | skip
    have hs : starEach [y] X.env = [(false, eval y X.env)] := star_cons (mt_ns hf)
    exact ps_expr (pe_bm PySem.F.plainAttrs_list PySem.F.slot_list_append PySem.F.type_list_append mt_append pv (pa_cons ((der e X Er W sc tl L A.toAmb).e y hf).1 pa_nil hs) (by rfl) (by rw [hs]; rfl) hl hs (by rfl))
  | .ext i e => fun X Er W sc tl L A => derS_st (fun _ => rfl) fun st h => by
    obtain ⟨x, p, apos, cpos, pos, es, e1, pv, hl, hf⟩ := list_ok (Er := Er) A.toAmb h
    subst e1
    rcases es with _ | ⟨y, _ | ⟨_, _⟩⟩ <;> first | cases hf | skip
    have hs : starEach [y] X.env = [(false, eval y X.env)] := star_cons (mt_ns hf)
    exact ps_expr (pe_bm PySem.F.plainAttrs_list PySem.F.slot_list_extend PySem.F.type_list_extend mt_extend pv (pa_cons ((der e X Er W sc tl L A.toAmb).e y hf).1 pa_nil hs) (by rfl) (by rw [hs]; rfl) hl hs (by rfl))
  | .pop i => fun X Er W sc tl L A => derS_st (fun _ => rfl) fun st h => by
    obtain ⟨x, p, apos, cpos, pos, es, e1, pv, hl, hf⟩ := list_ok (Er := Er) A.toAmb h
    subst e1
    cases es with
    | cons _ _ => cases hf
    | nil => exact ps_expr (pe_bm0 PySem.F.plainAttrs_list PySem.F.slot_list_pop PySem.F.type_list_pop mt_pop pv (by rfl) hl)
  | .ite c a b => fun X Er W sc tl L A => derS_st (fun _ => rfl) fun st h => by
    cases st <;> first | cases h | skip
    case If x y z p =>
    have h' : ((mt nm c).e tl sc x && (mtS nm rs a).b tl sc y && (mtS nm rs b).b tl sc z) = true := h
    rw [Bool.and_eq_true, Bool.and_eq_true] at h'
    exact ps_if ((der c X Er W sc tl L A.toAmb).e x h'.1.1).2.1 ((derS a X Er W sc tl L A).b y h'.1.2) ((derS b X Er W sc tl L A).b z h'.2)
  | .whl c b => fun X Er W sc tl L A => derS_st (fun _ => rfl) fun st h => by
    cases st <;> first | cases h | skip
    case While x y z p =>
    cases z with
    | cons _ _ => cases h
    | nil =>
    have h' : ((mt nm c).e tl sc x && (mtS nm rs b).b tl sc y) = true := h
    rw [Bool.and_eq_true] at h'
    exact ps_while A.po ((der c X Er W sc tl L A.toAmb).e x h'.1).2.1 ((derS b X Er W sc tl L A).b y h'.2)
  | .for g k it b => fun X Er W sc tl L A => derS_st (fun _ => rfl) fun st h => by
    cases st <;> first | cases h | skip
    case For tg iter y z p =>
    cases z with
    | cons _ _ => cases h
    | nil =>
    have h' : (mtGS nm sc g tg && mtI nm k ((mt nm it).a tl sc) tg sc iter && (mtS nm rs b).b tl sc y) = true := h
    rw [Bool.and_eq_true, Bool.and_eq_true] at h'
    obtain ⟨⟨h1, h2⟩, h3⟩ := h'
    have D := der it X Er W sc tl L A.toAmb
    exact ps_for A.po A.calm (pi_of A.hsc L.blt D.a D.one h2) (pg_ofS A.fn A.calm A.N A.nd A.hsc h1) ((derS b X Er W sc tl L A).b y h3) (fold_of h2)
  | .ret e => fun X Er W sc tl L A => derS_st (fun _ => rfl) fun st h => by
    cases st <;> first | cases h | skip
    case Return v p =>
    cases v <;> first | cases h | skip
    case some v => exact ps_ret ((der e X Er W sc tl L A.toAmb).e v h).1
  | .retN => fun X Er W sc tl L A => derS_st (fun _ => rfl) fun st h => by
    cases st <;> first | cases h | skip
    case Return v p =>
    cases v <;> first | cases h | skip
    exact ps_retN
  | .rais c => fun X Er W sc tl L A => derS_st (fun _ => rfl) fun st h => raise_ok A h
  | .raisP c e => fun X Er W sc tl L A => derS_st (fun _ => rfl) fun st h => by
    cases st <;> first | cases h | skip
    case Raise ex cause pos =>
    rcases ex with _ | ex
    · cases cause <;> cases h
    cases ex <;> first | (cases cause <;> cases h) | skip
    case Call fe es kw cpos =>
    cases fe <;> first | (cases cause <;> cases h) | skip
    case Name x p =>
    rcases es with _ | ⟨v, _ | ⟨_, _⟩⟩ <;> first | (cases kw <;> cases cause <;> cases h) | skip
    cases kw with
    | cons _ _ => cases cause <;> cases h
    | nil =>
    cases cause with
    | some _ => cases h
    | none =>
    have h' : (decide (x = c) && nm.pay.any (fun q => decide (q.1 = c)) && gl sc x && (mt nm e).e tl sc v) = true := h
    rw [Bool.and_eq_true, Bool.and_eq_true, Bool.and_eq_true, List.any_eq_true] at h'
    obtain ⟨⟨⟨h1, ⟨c2, f⟩, h2, h3⟩, h4⟩, h5⟩ := h'
    have e1 : x = c := of_decide_eq_true h1
    subst e1
    have e2 : c2 = x := of_decide_eq_true h3
    subst e2
    obtain ⟨r1, r2, r3, r4⟩ := L.rp c2 f h2
    obtain ⟨fI, r5, r6, r7⟩ := r4.ex
    obtain ⟨g1, g2⟩ := gl_of A.hsc h4
    have hs : starEach [v] X.env = [(false, eval v X.env)] := star_cons (mt_ns h5)
    have := ps_raise (pos := pos) A.calm A.tk (MiniP.pmk_pay (k := kk) (p := p) (pos := cpos) r5 r4.o r6 r7 A.room1 g1 r3 ((der e X Er W sc tl L A.toAmb).e v h5).1 hs g2)
    rw [← r2, ← r1] at this
    exact this
  | .tryF i e c => fun X Er W sc tl L A => derS_st (fun _ => rfl) fun st h => by
    simp only [mtS, Ms.st] at h
    split at h
    · rename_i v p1 x p2 n n2 p3 f p4 p5 p6 p7
      simp only [Bool.and_eq_true, decide_eq_true_eq, Bool.not_eq_true'] at h
      obtain ⟨⟨⟨⟨⟨⟨⟨⟨⟨⟨h1, h2⟩, h3⟩, h4⟩, h5⟩, h6⟩, h7⟩, h8⟩, h9⟩, h10⟩, h11⟩ := h
      subst h1 h4
      obtain ⟨r1, r2, r3, r4⟩ := L.rp x f (by simpa using h3)
      obtain ⟨fI, r5, r6, r7⟩ := r4.ex
      obtain ⟨g1, g2⟩ := gl_of A.hsc h2
      have hk : X.env.kindOf n2 = some .local := by
        show X.env.scope.names.lookup n2 = _
        rw [A.hsc]; exact h6
      have hN : X.N[i]? = some n2 := by rw [A.N]; exact h5
      have := ps_try_as (X := X) (x := x) (n := n2) (c := Er.xv x) (i := i) (body := [.Expr v p1]) (suite := []) (b₀ := .Return (some (.Attribute (.Name n2 p3) f p4)) p5) (np := p2) (pos := p7) (pos' := p6)
        (tb := fun W => tDrop (rd P Er Tb Gv e W).v) (ts := tsF P Er i x) (Wout := W) A.stk.1 A.stk.2 (by rw [A.N]; exact A.nd) hN hk ⟨g1, g2, .inl (by rw [r3, ← r2])⟩ A.tk
        (fun W2 pn xe tk po => ?_) (fun a oe cls d pn hz hf => ?_)
      · exact this
      · refine pss_one (ps_expr ((der e (X.tr pn xe) Er W2 sc false ⟨L.fns, L.glb, L.blt, L.mts, L.fls, L.sr, L.rp⟩ ⟨A.N, A.nd, A.calm, A.hsc, tk, A.room, (fun z => by cases z), (fun z => by cases z), (fun z => by cases z)⟩).e v h9).1 ?_)
        cases v <;> first | rfl | (exact absurd h10 Bool.noConfusion) | (exact absurd h11 Bool.noConfusion)
      · have pv : PE (X.suite a ((a, oe) :: pn)) (.Name n2 p3) (tVar i) := pe_var hN (.inl (by rw [A.hsc]; exact h6)) h7 h8
        have px := pe_xf (X := X) (pos := p4) r4.x (by have := r5.no; rw [← r1] at this; exact this) hz hf pv (by rfl)
        rw [← r1]
        exact pss_one (ps_ret px)
    · cases h
  | .augx i ix o e => fun X Er W sc tl L A => derS_st (fun _ => rfl) fun st h => by
    simp only [mtS, Ms.st] at h
    split at h
    · rename_i x p y p2 op v p3
      simp only [Bool.and_eq_true, decide_eq_true_eq] at h
      obtain ⟨⟨⟨h1, h2⟩, h3⟩, h4⟩ := h
      subst h1
      refine ps_augS ((der (.var i) X Er W sc tl L A.toAmb).e _ h2).1 ((der ix X Er W sc tl L A.toAmb).e y h3).1 get_list ((der e X Er W sc tl L A.toAmb).e v h4).1 (op_aug o) set_list ?_
      intro ov iv new
      cases y with
      | Slice l u s p => rw [mt_slice] at h3; cases h3
      | _ => rfl
    · cases h
  | .raw => fun X Er W sc tl L A => ⟨fun st _ => ⟨fun _ _ _ _ _ _ z => z.elim⟩, fun l _ => ⟨fun _ _ _ _ _ _ z => z.elim⟩⟩
  | .lams w k lcs rhs es => fun X Er W sc tl L A => ⟨fun st z => absurd z Bool.false_ne_true, fun l h => ps_lams L A h⟩
end
end Mini

namespace Mini
open PySem PySem.Spec PyProof.Rows L2

def hdsOf (sc : Scope) : List ExceptHandler → Option (List (Str × Str))
  | [] => some []
  | .ExceptHandler (some (.Name e _)) none [.Return (some (.Constant (.str ret) _ _)) _] _ :: r => if gl sc e then (hdsOf sc r).map ((e, ret) :: ·) else none
  | _ :: _ => none
def toldB (hs : List (Str × Str)) (a : Str) (sc : Scope) : List Stmt → Bool
  | [.Try [.Return (some (.Call (.Name x _) [] [] _)) _] (h :: r) [] [] _] => decide (x = a) && decide (hdsOf sc (h :: r) = some hs)
  | _ => false
section
variable {X : Cx}
theorem wStr_many {K : PySem.W.Frag} {xv : Str → Value} {Q : VK} {D : Ends} (hD : D.rt = Q) : ∀ (hs : List (Str × Str)) (l : List (Value × (Addr → Value → Option Addr → TS))), l.map (·.1) = hs.map (fun h => xv h.1) →
    (∀ (i : Nat) (h : Str × Str) (c : Value × (Addr → Value → Option Addr → TS)), hs[i]? = some h → l[i]? = some c → c.2 = fun _ _ _ => tRet (tC (.str h.2))) →
    ∀ cls d σ H, wStr K xv Q hs cls d H → wMany K (fun _ _ _ _ => False) D l cls d σ H
  | [], [], _, _, cls, d, σ, H, w => w
  | [], _ :: _, e, _, _, _, _, _, _ => by cases e
  | _ :: _, [], e, _, _, _, _, _, _ => by cases e
  | (c, s) :: hs, (v, ts) :: l, e, f, cls, d, σ, H, w => by
    have e1 : v = xv c := (List.cons.inj e).1
    have e2 := (List.cons.inj e).2
    subst e1
    obtain ⟨b, h1, h2, h3⟩ := w
    refine ⟨b, h1, fun hb a _ => ?_, fun hb => wStr_many hD hs l e2 (fun i h c hi hc => f (i + 1) h c hi hc) cls d σ H (h3 hb)⟩
    have e3 : ts = fun _ _ _ => tRet (tC (.str s)) := f 0 (c, s) _ rfl rfl
    rw [e3]
    show D.rt (.str s) H
    rw [hD]
    exact h2 hb
theorem hds_ok {sc : Scope} {xv : Str → Value} (hsc : X.env.scope = sc) (hx : ∀ c, (∃ s, (c, s) ∈ ([] : List (Str × Str))) → True) : ∀ (hds : List ExceptHandler) (hs : List (Str × Str)), hdsOf sc hds = some hs → (∀ c s, (c, s) ∈ hs → X.mg c = some (xv c)) →
    ∃ l, HdsOk X hds l ∧ l.map (·.1) = hs.map (fun h => xv h.1) ∧ ∀ (i : Nat) (h : Str × Str) (c : Value × (Addr → Value → Option Addr → TS)), hs[i]? = some h → l[i]? = some c → c.2 = fun _ _ _ => tRet (tC (.str h.2))
  | [], hs, e, _ => by
    cases e
    exact ⟨[], .nil, rfl, fun i h c hi _ => by simp at hi⟩
  | hd :: r, hs, e, hm => by
    unfold hdsOf at e
    split at e
    · rename_i heq
      cases heq
    · rename_i r' ex q ret q2 q3 q4 q5 heq
      cases heq
      split at e
      · rename_i hg
        cases er : hdsOf sc r with
        | none => rw [er] at e; cases e
        | some hr =>
          rw [er] at e
          cases e
          obtain ⟨g1, g2⟩ := gl_of hsc hg
          obtain ⟨l, h1, h2, h3⟩ := hds_ok hsc hx r hr er fun c s hcs => hm c s (List.mem_cons_of_mem _ hcs)
          refine ⟨(xv _, fun _ _ _ => tRet (tC (.str _))) :: l, .cons ⟨g1, g2, .inl (hm _ _ List.mem_cons_self)⟩ (fun a oe cls d pn _ _ => pss_one (ps_ret pe_str)) h1, by rw [List.map_cons, List.map_cons, h2], fun i h c hi hc => ?_⟩
          cases i with
          | zero =>
            cases hi
            cases hc
            rfl
          | succ i => exact h3 i h c hi hc
      · cases e
    · cases e
theorem told_gives {Ng : List Str} {x a q : Str} {sg : Scope} {g : Addr} {cdg : Value} {hs : List (Str × Str)} {bg : List Stmt} {xv : Str → Value} (hb : toldB hs a sg bg = true) (hm : ∀ c s, (c, s) ∈ hs → X.mg c = some (xv c))
    (h0 : ∀ f : Addr, (L2.start Ng [V.ref f])[0]? = some (some (V.ref f))) : LamX.GivesTo X Ng x sg g cdg bg a q (TTm X.K xv hs) := by
  intro f c' s H Q tl act hc h
  unfold toldB at hb
  split at hb
  · rename_i a' p1 p2 p3 hd r p8
    rw [Bool.and_eq_true] at hb
    have ea : a' = a := of_decide_eq_true hb.1
    subst ea
    obtain ⟨l, k1, k2, k3⟩ := hds_ok (X := (cxOf C8.CX0 X.prog X.w X.K X.mg X.base Ng x sg g cdg X.A X.stack s H C8.E0).nox) (sc := sg) (xv := xv) rfl (fun _ _ => trivial) (hd :: r) hs (of_decide_eq_true hb.2) hm
    refine ⟨_, pss_one (ps_try_many (X := (cxOf C8.CX0 X.prog X.w X.K X.mg X.base Ng x sg g cdg X.A X.stack s H C8.E0).nox) (l := l) (Wout := fun _ _ _ _ => False)
      (tb := fun W D σ H => ∃ Ech : XK, (∀ cls d σ' H', Ech cls d H' → W cls d σ' H') ∧ σ[0]? = some (some (.ref f)) ∧ H c' = some (LamX.CodeO c' q) ∧ tl Ech H D.rt)
      rfl rfl takes_none5 (fun W pn xe tk _ => ?_) k1), ?_⟩
    · refine ⟨fun pins s' σ H' D I h' => ?_⟩
      obtain ⟨Ech, hW, h1, h2, h3⟩ := h'
      have hp := act W pn xe Ech p1 p2 tk hW
      have hq := pss_one (ps_ret (pos := p3) hp)
      exact hq.run pins s' σ H' D I ⟨h1, h2, h3⟩
    · exact ⟨wStr X.K xv Q hs, fun cls d σ' H' w => wStr_many rfl hs l k2 k3 cls d σ' H' w, h0 f, hc, h⟩
  · cases hb
end

structure Df where
  x : Str
  ps : List Str
  N : List Str
  m : S
  me : Option (String × Str) := none
def Df.at_ (d : Df) : He.Defn := (d.x, d.me.map (·.2))
structure Txt where
  params : Arguments
  body : List Stmt
  scope : Scope
def progG (X : List Str) (G : Nat → D) (n : Nat) (ds : List Df) : Nat → Nat → List D → Dl → R D
  | 0 => fun _ _ _ => .bad
  | k + 1 => fun f as δ => match ds[f]? with
    | some d => runF { F := progG X G n ds k, G := G, X := X } n d.ps.length d.N.length d.m as δ
    | none => .bad
def progF (X : List Str) (G : Nat → D) (n : Nat) (ds : List Df) (k : Nat) : Par where
  F := progG X G n ds k
  G := G
  X := X
structure Tell where
  sn : Str
  en : Str
  c0 : Str
  cs1 : List Str
  cs2 : List Str
  lcs : List Str
structure Nb where
  gn : Nat → Option Str
  blts : List Str
  told : Str
  hs : List (Str × Str)
  gxs : List He.Defn
  lks : List He.Defn
  tls : List He.Defn := []
  als : List (Str × Str)
  fl : List (String × Str)
  pay : List (Str × Str) := []
  bd : Bool := false
  tell : Option Tell := none
  lawN : List Str := []
def Nb.sh (b : Nb) : Nat := if b.bd then 36 else 0
def Nb.gq (b : Nb) (p : He.Defn) : Str := if b.lks.contains p || b.tls.contains p then "<lambda>" else "<genexpr>"
def Nb.name (b : Nb) (p : He.Defn) : Str := match p.2 with
  | some m => m
  | none => (b.als.lookup p.1).getD p.1
def Nb.qual (b : Nb) (p : He.Defn) : Str := match p.2 with
  | some m => p.1 ++ "." ++ m
  | none => (b.als.lookup p.1).getD p.1
def Nb.nm (b : Nb) (ds : List Df) (N : List Str) (lw gx : Bool) (gq : Str) : Nm where
  N := N
  fn := fun i => (ds[i]?).bind fun d => if d.me.isNone then some d.x else none
  gn := b.gn
  blts := b.blts
  told := b.told
  hs := b.hs
  lw := lw
  gx := gx
  gq := gq
  mth := fun i => (ds[i]?).bind (·.me)
  fl := b.fl
  pay := b.pay
  bd := b.bd
  lq := b.tell.isSome && decide (N = b.lawN)
  lcs := (b.tell.map (·.lcs)).getD []
def genQ (q x : Str) : Str := (envOfC x ⟨.function, [], false, false, []⟩ 0 0 .none).qual ++ q
def scB (N ps : List Str) (sc : Scope) : Bool :=
  decide (sc.kind = .function) && !sc.isCoroutine && !sc.isGenerator && decide N.Nodup && decide (N.take ps.length = ps) && ps.all (fun x => locB sc x) && sc.names.all (fun y => !decide (y.2 = .free))
theorem scB_ok {N ps : List Str} {sc : Scope} (h : scB N ps sc = true) : FnScope N ps sc := by
  unfold scB at h
  simp only [Bool.and_eq_true, Bool.not_eq_true', decide_eq_true_eq, List.all_eq_true, decide_eq_false_iff_not] at h
  obtain ⟨⟨⟨⟨⟨⟨h1, h2⟩, h3⟩, h4⟩, h5⟩, h6⟩, h7⟩ := h
  refine ⟨h1, h2, h3, h4, h5, fun x hx => ?_, h7⟩
  have := h6 x hx
  unfold locB at this
  rw [Bool.or_eq_true] at this
  exact this.elim (fun h => .inl (of_decide_eq_true h)) fun h => .inr (of_decide_eq_true h)
def okDf (b : Nb) (rs : List Str) (ds : List Df) (lw : Bool) (d : Df) (t : Txt) : Bool := scB d.N d.ps t.scope && (mtS (b.nm ds d.N lw (b.gxs.contains d.at_) (b.gq d.at_)) rs d.m).b true t.scope t.body
def GxAt (Tb : List (Addr × Str)) (mg : Str → Option Value) (base : Heap) (q x : Str) (fd : FuncData) : Prop := ∃ c P : Addr, LamX.TabB base mg c P ∧ fd.code = .ref c ∧ (P, genQ q x) ∈ Tb ∧ ∀ p ∈ Tb, p.1 = P → p.2 = genQ q x
structure TdAt (K : PySem.W.Frag) (xv : Str → Value) (b : Nb) (mg : Str → Option Value) : Prop where
  ex : ∃ (ft : Addr) (fdt : FuncData) (tt : Txt) (a : Str), FunD K b.told b.told tt.params tt.body tt.scope [] [] ft fdt ∧ mg b.told = some (.ref ft) ∧ Binds K fdt [a] [] ∧ scB [a] [a] tt.scope = true ∧ toldB b.hs a tt.scope tt.body = true ∧
    (a == ("__debug__" : Str)) = false ∧ (a == ("__classdict__" : Str)) = false ∧ (b.told == ("__debug__" : Str)) = false ∧ ∀ c s, (c, s) ∈ b.hs → mg c = some (xv c)
def Gets (K : PySem.W.Frag) (mg : Str → Option Value) (d : Df) (f : Addr) : Prop := match d.me with
  | none => mg d.x = some (.ref f)
  | some (c, m) => Cls K (clsA K c) ∧ Meth K (clsA K c) m f ∧ (m = ("__init__" : Str) → Mk K (clsA K c) f ∧ mg (Str.ofString c) = some (.ref (clsA K c)))
structure DfAt (K : PySem.W.Frag) (mg : Str → Option Value) (b : Nb) (Tb : List (Addr × Str)) (base : Heap) (d : Df) (t : Txt) : Prop where
  ex : ∃ f fd, FunD K (b.name d.at_) (b.qual d.at_) t.params t.body t.scope [] [] f fd ∧ Gets K mg d f ∧ Binds K fd d.ps [] ∧ (b.gxs.contains d.at_ = true → GxAt Tb mg base (b.gq d.at_) (b.qual d.at_) fd)
section
variable {K : PySem.W.Frag} {Pr : Par} {Er : Errs K Pr.X} {Tb : List (Addr × Str)} {Gv : Nat → V} {prog : Program} {w : World} {mg : Str → Option Value} {base : Heap}
theorem spOf_len {n k wd : Nat} {m : S} {vs : List V} {H : Hp} {Q : VK} {E : XK} (h : spOf Er Tb (runF Pr n k wd m) vs H Q E) : vs.length = k := by
  obtain ⟨C, M, ts, δ, p, r, q⟩ := h
  unfold runF at q
  split at q
  · rename_i hl; rw [r.length, hl]
  · exact q.elim
theorem see_of {N : List Str} {ql : Str} {sc : Scope} {f : Addr} {cdv : Value} {A : Around} {outer : List Env} {s : Shared} {H : Hp} {E : XK} {kk : Nat} (hg : sc.isGenerator = false) (hc : sc.isCoroutine = false) (hn : Sr0 base) (ht : prog.given.tree = none) (hk : 32 ≤ kk)
    (hr : Room kk (cxOf (L2.CX prog w) prog w K mg base N ql sc f cdv A outer s H E).A) :
    (∀ h : Heap, (∀ b o, base.get? b = some o → h.get? b = some o) → (cxOf (L2.CX prog w) prog w K mg base N ql sc f cdv A outer s H E).A.frames = some (cxOf (L2.CX prog w) prog w K mg base N ql sc f cdv A outer s H E).stack → BltOk base → SeerAt (model prog w) (cxOf (L2.CX prog w) prog w K mg base N ql sc f cdv A outer s H E).A h) ∧
      (cxOf (L2.CX prog w) prog w K mg base N ql sc f cdv A outer s H E).A.depth + Builtin.pylongFrames < recursionLimit := by
  refine ⟨fun h kp fr bl => SeerAt.of ((hn.no bl).keeps kp) ht fr hg hc rfl rfl, ?_⟩
  have := hr.dp
  have e : Builtin.pylongFrames = 100 := rfl
  rw [e]
  omega
theorem fn_okM {kk n : Nat} {b : Nb} {rs : List Str} {ds : List Df} {d : Df} {t : Txt} {f : Addr} {fd : FuncData} {lw gx : Bool} {gq nme ql : Str} (hG : ∀ g C M H, Rep K C M H (Pr.G g) (Gv g)) (F : FunD K nme ql t.params t.body t.scope [] [] f fd) (ok : okDf b rs ds (b.tls.contains d.at_) d t = true)
    (L : Lib Pr Er Tb Gv (b.nm ds d.N lw gx gq) kk prog w mg base) (hr : ∀ c, c ∈ rs → Rs K mg c (Er.xv c)) (hgx : b.gxs.contains d.at_ = true → GxAt Tb mg base (b.gq d.at_) ql fd) (TD : b.tls.contains d.at_ = true → TdAt K Er.xv b mg) (ht : b.tls.contains d.at_ = true → b.gxs.contains d.at_ = true) (hlq : (b.tell.isSome && decide (d.N = b.lawN)) = false) :
    FnOk prog w K mg base (L2.CX prog w) (kk + 3) f fd d.ps (spOf Er Tb (runF Pr n d.ps.length d.N.length d.m)) := by
  unfold okDf at ok
  rw [Bool.and_eq_true] at ok
  have S := scB_ok ok.1
  obtain ⟨oc, od, dV, kV, doc, pm, an, cdv, ct, osl, rfl, lk, hcd, _, _⟩ := F.ex
  refine fn_of lk hcd S (fun vs H Q E h => spOf_len h) fun A outer s H vs Q E hroom h => ?_
  refine ⟨rdS Pr Er Tb Gv (fun cls d _ H => E cls d H) d.m, ?_, run_ok (snd hG) h⟩
  have L' : Lib (K := (cxOf (L2.CX prog w) prog w K mg base d.N ql t.scope f cdv A outer s H E).K) Pr Er Tb Gv (b.nm ds d.N (b.tls.contains d.at_) (b.gxs.contains d.at_) (b.gq d.at_)) kk prog w mg base := ⟨L.fns, L.glb, L.blt, L.mts, L.fls, L.sr, L.rp⟩
  refine (derS d.m (cxOf (L2.CX prog w) prog w K mg base d.N ql t.scope f cdv A outer s H E) Er (fun cls d _ H => E cls d H) t.scope true L'
    ⟨⟨rfl, S.nd, rfl, rfl, takes_of rfl rfl rfl rfl, hroom.mono (by omega), (fun _ z => by
      obtain ⟨c, P, q1, q2, q3, q4⟩ := hgx z
      exact ⟨hroom.mono (by omega), c, P, q1, q2, q3, q4⟩), fun _ zl te ps body lsc p lpos pos h1 h2 h3 h4 => ?_, fun _ zb => see_of S.gen S.co (L.sr zb).1 (L.sr zb).2.1 (L.sr zb).2.2 (hroom.mono (by omega))⟩, fun _ => rfl, passes_of rfl, S.kind, hr, ⟨rfl, rfl⟩, hroom.mono (by omega), fun _ z => absurd (hlq.symm.trans z) (by decide)⟩).b t.body ok.2
  have zl : b.tls.contains d.at_ = true := zl
  obtain ⟨c, P, q1, q2, q3, q4⟩ := hgx (ht zl)
  have eq : b.gq d.at_ = "<lambda>" := by unfold Nb.gq; rw [zl, Bool.or_true, if_pos rfl]
  rw [eq] at q3 q4
  obtain ⟨ft, fdt, tt, a, FT, mT, bT, sT, hT, hva, hca, hdt, hm⟩ := (TD zl).ex
  have ST := scB_ok sT
  obtain ⟨oc2, od2, dV2, kV2, doc2, pm2, an2, cdv2, ct2, osl2, rfl, lk2, hcd2, _, _⟩ := FT.ex
  have e1 := noArgs_eq h1
  subst e1
  obtain ⟨g1, g2⟩ := gl_of (X := cxOf (L2.CX prog w) prog w K mg base d.N ql t.scope f cdv A outer s H E) rfl h3
  exact LamX.pe_lamcall (X := cxOf (L2.CX prog w) prog w K mg base d.N ql t.scope f cdv A outer s H E) (T := Tb) (TT := TTm K Er.xv b.hs) (Ng := [a]) (a := a) (k := kk) (P := P) (c := c) g1 mT FT.kp lk2 hcd2 bT ST rfl ((ST.par a (by simp)).elim .inl fun z => .inr (.inl z))
    (told_gives (X := cxOf (L2.CX prog w) prog w K mg base d.N ql t.scope f cdv A outer s H E) hT hm fun f => rfl) q1 q2 q3 q4 hroom (LamX.lamS_by h2) rfl (fun _ _ _ _ _ => rfl) h4 g2 hva hca
end
section
variable {K : PySem.W.Frag} {X : List Str} {Er : Errs K X} {Tb : List (Addr × Str)} {Gv : Nat → V} {prog : Program} {w : World} {mg : Str → Option Value} {base : Heap}
theorem df_at {G : Nat → D} {n : Nat} {b : Nb} {rs : List Str} {ds : List Df} (hG : ∀ g C M H, Rep K C M H (G g) (Gv g)) (hd : ∀ (i : Nat) (d : Df), ds[i]? = some d → ∃ t, DfAt K mg b Tb base d t ∧ okDf b rs ds (b.tls.contains d.at_) d t = true) (TD : ∀ p, b.tls.contains p = true → TdAt K Er.xv b mg) (ht : ∀ p, b.tls.contains p = true → b.gxs.contains p = true) (hlq : ∀ d, d ∈ ds → (b.tell.isSome && decide (d.N = b.lawN)) = false)
    (hr : ∀ c, c ∈ rs → Rs K mg c (Er.xv c)) (k : Nat) (hL : ∀ j, k = j + 1 → ∀ (N : List Str) (lw gx : Bool) (gq : Str), Lib (progF X G n ds j) Er Tb Gv (b.nm ds N lw gx gq) (4 * j + 1 + b.sh) prog w mg base) (f : Nat) (d : Df) (ed : ds[f]? = some d) :
    ∃ fa fd, Gets K mg d fa ∧ PySem.W.keepIn K (.ref fa) = true ∧ FnOk prog w K mg base (L2.CX prog w) (4 * k + b.sh) fa fd d.ps (spOf Er Tb ((progF X G n ds k).F f)) ∧ Binds K fd d.ps [] := by
  obtain ⟨t, ⟨fa, fd, F, hm, hb, hgx⟩, ok⟩ := hd f d ed
  cases k with
  | zero => exact ⟨fa, fd, hm, F.kp, ⟨fun vs H Q E h => by obtain ⟨_, _, _, _, _, _, q⟩ := h; exact q.elim, fun A outer s H args us vs Q E _ _ _ _ h => by obtain ⟨_, _, _, _, _, _, q⟩ := h; exact q.elim⟩, hb⟩
  | succ k =>
    have L := hL k rfl d.N false (b.gxs.contains d.at_) (b.gq d.at_)
    have Fo := fn_okM (n := n) (kk := 4 * k + 1 + b.sh) (Pr := progF X G n ds k) hG F ok L hr hgx (TD d.at_) (ht d.at_) (hlq d (List.mem_of_getElem? ed))
    refine ⟨fa, fd, hm, F.kp, ?_, hb⟩
    rw [show 4 * (k + 1) + b.sh = 4 * k + 1 + b.sh + 3 by omega]
    refine Fo.imp fun vs H Q E h => ?_
    have eF : (progF X G n ds (k + 1)).F f = runF (progF X G n ds k) n d.ps.length d.N.length d.m := by
      funext as δ
      show (match ds[f]? with | some d => runF (progF X G n ds k) n d.ps.length d.N.length d.m as δ | none => .bad) = _
      rw [ed]
    rw [eF] at h
    exact h
theorem lib_at {G : Nat → D} {n : Nat} {b : Nb} {rs : List Str} {ds : List Df} (hG : ∀ g C M H, Rep K C M H (G g) (Gv g)) (hd : ∀ (i : Nat) (d : Df), ds[i]? = some d → ∃ t, DfAt K mg b Tb base d t ∧ okDf b rs ds (b.tls.contains d.at_) d t = true) (TD : ∀ p, b.tls.contains p = true → TdAt K Er.xv b mg) (ht : ∀ p, b.tls.contains p = true → b.gxs.contains p = true) (hlq : ∀ d, d ∈ ds → (b.tell.isSome && decide (d.N = b.lawN)) = false) (hgl : ∀ g x, b.gn g = some x → ∃ u, mg x = some u ∧ RelV (Gv g) u)
    (hbl : ∀ x, x ∈ b.blts → mg x = none) (hr : ∀ c, c ∈ rs → Rs K mg c (Er.xv c)) (hfl : ∀ c f, (c, f) ∈ b.fl → Cls K (clsA K c) ∧ NoAttr K (clsA K c) f)
    (hsr : b.bd = true → Sr0 base ∧ prog.given.tree = none) (hrp : ∀ c f, (c, f) ∈ b.pay → Er.xf c = f ∧ Er.xv c = .ref (refA (Er.xv c)) ∧ mg c = some (.ref (refA (Er.xv c))) ∧ MiniP.PayC K prog (refA (Er.xv c)) f) : ∀ (k : Nat) (N : List Str) (lw gx : Bool) (gq : Str), Lib (progF X G n ds k) Er Tb Gv (b.nm ds N lw gx gq) (4 * k + 1 + b.sh) prog w mg base := by
  have step : ∀ (k : Nat) (hL : ∀ j, k = j + 1 → ∀ (N : List Str) (lw gx : Bool) (gq : Str), Lib (progF X G n ds j) Er Tb Gv (b.nm ds N lw gx gq) (4 * j + 1 + b.sh) prog w mg base), ∀ (N : List Str) (lw gx : Bool) (gq : Str), Lib (progF X G n ds k) Er Tb Gv (b.nm ds N lw gx gq) (4 * k + 1 + b.sh) prog w mg base := fun k hL N lw gx gq => by
    refine ⟨fun f x e => ?_, hgl, hbl, fun f c m e => ?_, hfl, fun z => ⟨(hsr z).1, (hsr z).2, by rw [show b.sh = 36 by unfold Nb.sh; rw [show b.bd = true from z]; rfl]; omega⟩, hrp⟩
    · have e' : ((ds[f]?).bind fun d => if d.me.isNone then some d.x else none) = some x := e
      rw [Option.bind_eq_some_iff] at e'
      obtain ⟨d, ed, e2⟩ := e'
      split at e2
      · rename_i hn
        cases e2
        obtain ⟨fa, fd, h3, h4, h5, h6⟩ := df_at hG hd TD ht hlq hr k hL f d ed
        unfold Gets at h3
        rw [Option.isNone_iff_eq_none.mp hn] at h3
        exact ⟨fa, fd, d.ps, 4 * k + b.sh, by omega, h3, h4, h5, h6⟩
      · cases e2
    · have e' : (ds[f]?).bind (·.me) = some (c, m) := e
      rw [Option.bind_eq_some_iff] at e'
      obtain ⟨d, ed, e2⟩ := e'
      obtain ⟨fa, fd, h3, h4, h5, h6⟩ := df_at hG hd TD ht hlq hr k hL f d ed
      unfold Gets at h3
      rw [e2] at h3
      exact ⟨h3.1, fa, fd, d.ps, 4 * k + b.sh, by omega, h3.2.1, h5, h6, h3.2.2⟩
  intro k
  induction k with
  | zero => exact step 0 fun j hj => by omega
  | succ k ih =>
    refine step (k + 1) fun j hj => ?_
    obtain rfl : j = k := by omega
    exact ih
end
end Mini

namespace Mini
open PySem PySem.Spec PyProof.Rows L2
def lamQ (x : Str) : Str := (envOfC x ⟨.function, [], false, false, []⟩ 0 0 .none).qual ++ "<lambda>"
section
variable {K : PySem.W.Frag} {Pr : Par} {Er : Errs K Pr.X} {Tb : List (Addr × Str)} {Gv : Nat → V} {prog : Program} {w : World} {mg : Str → Option Value} {base : Heap}
structure TdQ (xv : Str → Value) (b : Nb) (mg : Str → Option Value) : Prop where
  ex : ∀ T, b.tell = some T → ∃ (ft : Addr) (fdt : FuncData) (tt : Txt) (a : Str) (c0v : Value) (vs1 vs2 : List V) (cvs1 cvs2 : List Value),
    (FunD K b.told b.told tt.params tt.body tt.scope [] [] ft fdt ∧ mg b.told = some (.ref ft) ∧ Binds K fdt [a] [] ∧ scB [a, T.sn, T.en] [a] tt.scope = true ∧ MiniL.tellB a T.sn T.en T.c0 T.cs1 T.cs2 tt.body = true ∧ (a == ("__debug__" : Str)) = false ∧ (a == ("__classdict__" : Str)) = false) ∧
    (tt.scope.names.lookup T.sn = some .local ∧ tt.scope.names.lookup T.en = some .local ∧ (T.sn == ("__debug__" : Str)) = false ∧ (T.sn == ("__classdict__" : Str)) = false ∧ (T.en == ("__debug__" : Str)) = false ∧ (T.en == ("__classdict__" : Str)) = false ∧
      tt.scope.names.lookup T.c0 = some .globalImplicit ∧ (T.c0 == ("__debug__" : Str)) = false ∧ mg T.c0 = some c0v ∧ tt.scope.names.lookup ("isinstance" : Str) = some .globalImplicit ∧ mg "isinstance" = none) ∧
    (∀ Y : Cx, Y.env.scope = tt.scope → Y.mg = mg → MiniL.CNs Y T.cs1 vs1 cvs1 ∧ MiniL.CNs Y T.cs2 vs2 cvs2) ∧
    ∀ x, x ∈ T.lcs → ∃ (D : Addr) (bs1 bs2 : List Bool), xv x = .ref D ∧ ExcC K D ∧ PySem.W.exmOne K (xv x) c0v = some true ∧ MiniL.Kits K (xv x) cvs1 bs1 ∧ MiniL.Kits K (xv x) cvs2 bs2 ∧ bs1 ++ bs2 = (T.lcs.map fun y => decide (y = x)) ++ [true]
theorem law_okM {kk n : Nat} {b : Nb} {rs : List Str} {ds : List Df} {d : Df} {t : Txt} {f c P : Addr} {fd : FuncData} {lw : Bool} (hG : ∀ g C M H, Rep K C M H (Pr.G g) (Gv g)) (F : FunD K d.x d.x t.params t.body t.scope [] [] f fd) (ok : okDf b rs ds lw d t = true)
    (L : Lib Pr Er Tb Gv (b.nm ds d.N true false "") kk prog w mg base) (hr : ∀ c, c ∈ rs → Rs K mg c (Er.xv c)) (TD : lw = true → TdAt K Er.xv b mg) (TQ : TdQ (K := K) Er.xv b mg) (TB : LamX.TabB base mg c P) (hcode : fd.code = .ref c) (hmT : (P, lamQ d.x) ∈ Tb) (huT : ∀ p ∈ Tb, p.1 = P → p.2 = lamQ d.x) (ngx : b.gxs.contains d.at_ = false) :
    FnOk prog w K mg base (L2.CX prog w) (kk + 3) f fd d.ps (spOf Er Tb (runF Pr n d.ps.length d.N.length d.m)) := by
  unfold okDf at ok
  rw [Bool.and_eq_true] at ok
  have S := scB_ok ok.1
  obtain ⟨oc, od, dV, kV, doc, pm, an, cdv, ct, osl, rfl, lk, hcd, _, _⟩ := F.ex
  have hc' : cdv = .ref c := hcode
  subst hc'
  refine fn_of lk hcd S (fun vs H Q E h => spOf_len h) fun A outer s H vs Q E hroom h => ?_
  refine ⟨rdS Pr Er Tb Gv (fun cls d _ H => E cls d H) d.m, ?_, run_ok (snd hG) h⟩
  have L' : Lib (K := (cxOf (L2.CX prog w) prog w K mg base d.N d.x t.scope f (.ref c) A outer s H E).K) Pr Er Tb Gv (b.nm ds d.N lw (b.gxs.contains d.at_) (b.gq d.at_)) kk prog w mg base := ⟨L.fns, L.glb, L.blt, L.mts, L.fls, L.sr, L.rp⟩
  refine (derS d.m (cxOf (L2.CX prog w) prog w K mg base d.N d.x t.scope f (.ref c) A outer s H E) Er (fun cls d _ H => E cls d H) t.scope true L'
    ⟨⟨rfl, S.nd, rfl, rfl, takes_of rfl rfl rfl rfl, hroom.mono (by omega), (fun _ z => by
      rw [show (b.nm ds d.N lw (b.gxs.contains d.at_) (b.gq d.at_)).gx = b.gxs.contains d.at_ from rfl, ngx] at z
      cases z), fun _ zl te ps body lsc p lpos pos h1 h2 h3 h4 => ?_, fun _ zb => see_of S.gen S.co (L.sr zb).1 (L.sr zb).2.1 (L.sr zb).2.2 (hroom.mono (by omega))⟩, fun _ => rfl, passes_of rfl, S.kind, hr, ⟨rfl, rfl⟩, hroom.mono (by omega), fun _ z => ?_⟩).b t.body ok.2
  case refine_2 =>
    have z' : (b.tell.isSome && decide (d.N = b.lawN)) = true := z
    rw [Bool.and_eq_true, Option.isSome_iff_exists] at z'
    obtain ⟨⟨T, eT⟩, _⟩ := z'
    obtain ⟨ft, fdt, tt, a, c0v, vs1, vs2, cvs1, cvs2, ⟨FT, mT, bT, sT, hT, hva, hca⟩, ⟨q1, q2, q3, q4, q5, q6, q7, q8, q9, q10, q11⟩, hcn, kits⟩ := TQ.ex T eT
    have ST := scB_ok sT
    obtain ⟨oc2, od2, dV2, kV2, doc2, pm2, an2, cdv2, ct2, osl2, rfl, lk2, hcd2, _, _⟩ := FT.ex
    have el : (b.nm ds d.N lw (b.gxs.contains d.at_) (b.gq d.at_)).lcs = T.lcs := by show (b.tell.map (·.lcs)).getD [] = _; rw [eT]; rfl
    refine ⟨ft, c, P, tt.params, tt.body, tt.scope, dV2, kV2, doc2, pm2, cdv2, ct2, oc2, an2, od2, osl2, a, [a, T.sn, T.en], c0v, cvs1, cvs2, ⟨mT, FT.kp, lk2, hcd2, bT, ST, rfl, (ST.par a (by simp)).elim .inl fun z => .inr (.inl z), ?_, hroom, hva, hca⟩, ⟨TB, rfl, hmT, huT⟩, fun x hx => ?_⟩
    · exact MiniL.tell_gives hT (by have := ST.nd; exact this) q1 q2 q3 q4 q5 q6 q7 q8 q9 q10 q11 (fun Y e1 e2 => (hcn Y e1 e2).1) (fun Y e1 e2 => (hcn Y e1 e2).2)
    · rw [el] at hx ⊢
      exact kits x hx
  have zl : lw = true := zl
  obtain ⟨ft, fdt, tt, a, FT, mT, bT, sT, hT, hva, hca, hdt, hm⟩ := (TD zl).ex
  have ST := scB_ok sT
  obtain ⟨oc2, od2, dV2, kV2, doc2, pm2, an2, cdv2, ct2, osl2, rfl, lk2, hcd2, _, _⟩ := FT.ex
  have e1 := noArgs_eq h1
  subst e1
  obtain ⟨g1, g2⟩ := gl_of (X := cxOf (L2.CX prog w) prog w K mg base d.N d.x t.scope f (.ref c) A outer s H E) rfl h3
  exact LamX.pe_lamcall (X := cxOf (L2.CX prog w) prog w K mg base d.N d.x t.scope f (.ref c) A outer s H E) (T := Tb) (TT := TTm K Er.xv b.hs) (Ng := [a]) (a := a) (k := kk) (P := P) (c := c) g1 mT FT.kp lk2 hcd2 bT ST rfl ((ST.par a (by simp)).elim .inl fun z => .inr (.inl z))
    (told_gives (X := cxOf (L2.CX prog w) prog w K mg base d.N d.x t.scope f (.ref c) A outer s H E) hT hm fun f => rfl) TB rfl hmT huT hroom (LamX.lamS_by h2) rfl (fun _ _ _ _ _ => rfl) h4 g2 hva hca
end

mutual
def cB (K : PySem.W.Frag) : D → Value → Bool
  | .non, .none => true
  | .bl b, .bool c => b == c
  | .int i, .int j _ => decide (i = j)
  | .str x, .str y _ => decide (x = y)
  | .tup ts, .ref a => (match K.lookup a with
    | some ⟨.type c, _, .seq its _, _⟩ => decide (c = "tuple") && (decide (its.size ≤ sizeLine) && cBL K ts its.toList)
    | _ => false)
  | _, _ => false
def cBL (K : PySem.W.Frag) : List D → List Value → Bool
  | [], [] => true
  | t :: ts, u :: us => cB K t u && cBL K ts us
  | _, _ => false
end
mutual
theorem cB_ok {K : PySem.W.Frag} : ∀ (d : D) (u : Value), cB K d u = true → ∃ v, RelV v u ∧ ∀ C M H, Rep K C M H d v
  | .non, u, h => by
    cases u <;> unfold cB at h <;> first | cases h; done | skip
    exact ⟨.non, rfl, fun _ _ _ => mk_non⟩
  | .bl b, u, h => by
    cases u <;> unfold cB at h <;> first | cases h; done | skip
    rename_i c
    obtain rfl : b = c := by simpa using h
    exact ⟨.bl b, rfl, fun _ _ _ => mk_bl⟩
  | .int b, u, h => by
    cases u <;> unfold cB at h <;> first | cases h; done | skip
    rename_i c _
    obtain rfl : b = c := by simpa using h
    exact ⟨.int b, ⟨_, rfl⟩, fun _ _ _ => mk_int⟩
  | .str b, u, h => by
    cases u <;> unfold cB at h <;> first | cases h; done | skip
    rename_i c _
    obtain rfl : b = c := by simpa using h
    exact ⟨.str b, ⟨_, rfl⟩, fun _ _ _ => mk_str⟩
  | .ty _, u, h => by cases u <;> unfold cB at h <;> cases h
  | .lst _, u, h => by cases u <;> unfold cB at h <;> cases h
  | .own _, u, h => by cases u <;> unfold cB at h <;> cases h
  | .frz _, u, h => by cases u <;> unfold cB at h <;> cases h
  | .cell _, u, h => by cases u <;> unfold cB at h <;> cases h
  | .tup ts, u, h => by
    cases u <;> unfold cB at h <;> first | cases h; done | skip
    case ref a =>
    cases q : K.lookup a with
    | none => rw [q] at h; cases h
    | some o =>
      obtain ⟨oc, od, dt, osl⟩ := o
      rw [q] at h
      cases oc <;> first | cases h; done | skip
      case type c =>
      cases dt <;> first | cases h; done | skip
      case seq its n =>
      have h' : (decide (c = "tuple") && (decide (its.size ≤ sizeLine) && cBL K ts its.toList)) = true := h
      rw [Bool.and_eq_true, Bool.and_eq_true] at h'
      obtain ⟨vs, r1, r2⟩ := cBL_ok ts its.toList h'.2.2
      have ec : c = "tuple" := of_decide_eq_true h'.1
      subst ec
      refine ⟨.ref a, rfl, fun C M H => ?_⟩
      unfold Rep
      exact ⟨a, vs, rfl, .inr ⟨_, its, n, q, rfl, rfl, of_decide_eq_true h'.2.1, r1⟩, r2 C M H⟩
theorem cBL_ok {K : PySem.W.Frag} : ∀ (ds : List D) (us : List Value), cBL K ds us = true → ∃ vs, Vals vs us ∧ ∀ C M H, RepL K C M H ds vs
  | [], us, h => by
    cases us <;> unfold cBL at h <;> first | cases h; done | skip
    exact ⟨[], .nil, fun _ _ _ => repL_nil⟩
  | d :: ds, us, h => by
    cases us <;> unfold cBL at h <;> first | cases h; done | skip
    rw [Bool.and_eq_true] at h
    obtain ⟨v, h1, h2⟩ := cB_ok d _ h.1
    obtain ⟨vs, h3, h4⟩ := cBL_ok ds _ h.2
    exact ⟨v :: vs, .cons h1 h3, fun C M H => repL_cons (h2 C M H) (h4 C M H)⟩
end

def asC (g : Addr → Option Obj) (n : Nat) : List Addr := He.asD g n ++ [cStatics, sysModules]
def frC (g : Addr → Option Obj) (n : Nat) : PySem.W.Frag := He.frT g (asC g n)
def obsC (n : Nat) (fa : List He.Fa) (fn : List He.DefD) (ts : List He.Tab) (tf : List He.Defn) (ex : PySem.W.Frag → Bool) (g : Addr → Option Obj) : He.AlX :=
  (He.obsT fa fn ts (frC g n), ex (frC g n) && He.tabsB g tf (frC g n))
theorem saysC_of {n : Nat} {fa : List He.Fa} {fn : List He.DefD} {ts : List He.Tab} {tf : List He.Defn} {ex : PySem.W.Frag → Bool} {w : World} {h : Heap} (e : obsC n fa fn ts tf ex h.get? = He.valX fn ts w) : He.SaysX fa fn ts tf ex w h (frC h.get? n) := by
  have h1 := congrArg Prod.fst e
  have h2 := congrArg Prod.snd e
  have h2 : (ex (frC h.get? n) && He.tabsB h.get? tf (frC h.get? n)) = true := h2
  rw [Bool.and_eq_true] at h2
  have hk : ∀ p ∈ tf, PySem.W.codeHdIn (frC h.get? n) (He.cT (frC h.get? n) p).1 (He.cT (frC h.get? n) p).2 = true ∧ ∃ o, h.get? (He.cT (frC h.get? n) p).2 = some o ∧ He.emptyTab o = true := fun p hp => by
    have h3 := List.all_eq_true.mp h2.2 p hp
    rw [Bool.and_eq_true] at h3
    refine ⟨h3.1, ?_⟩
    have h4 := h3.2
    split at h4
    · rename_i o q
      exact ⟨o, q, h4⟩
    · cases h4
  refine ⟨h1, h2.1, fun p hp => (hk p hp).1, fun p hp => ?_, fun p hp => ?_⟩
  · obtain ⟨_, o, q, z⟩ := hk p hp
    exact He.frT_none q z
  · obtain ⟨_, o, q, z⟩ := hk p hp
    rw [q, He.emptyTab_eq z]
def hookC (n : Nat) (fa : List He.Fa) (fn : List He.DefD) (ts : List He.Tab) (tf : List He.Defn) (ex : PySem.W.Frag → Bool) : PySem.W.Hook where
  α := He.AlX
  obs := fun st => obsC n fa fn ts tf ex st.heap.get?
  val := fun wo => He.valX fn ts wo
  says := fun wo hh => ∃ K : PySem.W.Frag, K.In hh ∧ He.SaysX fa fn ts tf ex wo hh K
  of := fun _ _ eq => ⟨_, He.frT_in, saysC_of eq⟩
  keeps := fun _ _ _ ⟨K, hK, sx⟩ kp => ⟨K, PySem.W.Frag.In.keeps hK kp, ⟨sx.t, sx.more, sx.hd, sx.out, fun q hq => kp _ _ (sx.empty q hq)⟩⟩
theorem obsC_eq {n : Nat} {fa : List He.Fa} {fn : List He.DefD} {ts : List He.Tab} {tf : List He.Defn} {ex : PySem.W.Frag → Bool} {g : Addr → Option Obj} {st : Shared} (h : ∀ a, g a = st.heap.get? a) : obsC n fa fn ts tf ex g = (hookC n fa fn ts tf ex).obs st := by
  obtain rfl : g = st.heap.get? := funext h
  rfl
def seerB (K : PySem.W.Frag) : Bool := PySem.W.nsOkIn K cStatics && decide (PySem.W.nsIn K cStatics "sys.audit-hooks" = some none) && decide (PySem.W.nsIn K cStatics "sys.dict" = some none) && PySem.W.nsOkIn K sysModules && decide (PySem.W.nsIn K sysModules "_pylong" = some none) &&
  match PySem.W.nsIn K mainGlobals "__builtins__" with
    | some (some (.ref bm)) => (match K.lookup bm with
      | some ob => decide (ob.cls = .type "module") && decide (ob.dict = some builtinsNs)
      | none => false)
    | _ => false
theorem seerB_ok {K : PySem.W.Frag} {h : Heap} {mg : Str → Option Value} (e : seerB K = true) (X : K.In h) (G : h.Ns mainGlobals mg) : Sr0 h := by
  unfold seerB at e
  simp only [Bool.and_eq_true, decide_eq_true_eq] at e
  obtain ⟨⟨⟨⟨⟨e1, e2⟩, e3⟩, e4⟩, e5⟩, e6⟩ := e
  refine ⟨⟨h.nsMap cStatics, .of_isNs (PySem.W.isNs_of_in X e1), PySem.W.nsMap_none_of_in X e1 e2, PySem.W.nsMap_none_of_in X e1 e3⟩, ⟨h.nsMap sysModules, .of_isNs (PySem.W.isNs_of_in X e4), PySem.W.nsMap_none_of_in X e4 e5⟩, ?_⟩
  split at e6
  · rename_i bm q
    split at e6
    · rename_i ob q2
      rw [Bool.and_eq_true, decide_eq_true_eq, decide_eq_true_eq] at e6
      exact ⟨mg, bm, ob, G, PySem.W.mg_of X G q, X _ _ q2, e6.1, e6.2⟩
    · cases e6
  · cases e6
structure Job where
  b : Nb
  rs : List Str
  X : List Str
  gs : List (Str × D)
  ds : List Df
  ts : List Txt
  law : Df
  tlaw : Txt
  tt : Txt
  ta : Str
  n : Nat
  k : Nat
  lw : Bool := true
  file : Str := Str.empty
def Job.G (J : Job) (g : Nat) : D := match J.gs[g]? with
  | some p => p.2
  | none => .non
def Job.tbs (J : Job) (K : PySem.W.Frag) : List Addr := (((J.law.x, none) : He.Defn) :: J.b.gxs).map fun p => (He.cT K p).2
def tvV (K : PySem.W.Frag) (x : Str) : V := if x = ("ValueError" : Str) then .ty "ValueError" else .ref (He.ga K x)
def tvU (K : PySem.W.Frag) (x : Str) : Value := if x = ("ValueError" : Str) then .type "ValueError" else .ref (He.ga K x)
def excCB (K : PySem.W.Frag) (D : Addr) : Bool := decide (PySem.W.findIn K (.ref D) "__getattribute__" = some (some (.builtin "BaseException.__getattribute__"))) && decide (PySem.W.findIn K (.ref D) "__getattr__" = some none) && decide (PySem.W.subIn K (.ref D) (.type "BaseException") = some true) && PySem.W.hasDictIn K D &&
  decide (PySem.W.findIn K (.ref D) "__class__" = some (some (.builtin "object.__class__"))) && decide (PySem.W.specialIn K (.builtin "object.__class__") "__get__" = some (some (.builtin "getset_descriptor.__get__"))) && decide (PySem.W.takesIn K (.builtin "object.__class__") = some true) && decide (PySem.W.mroIn K D (.type "object") = some true)
theorem excCB_ok {K : PySem.W.Frag} {D : Addr} (h : excCB K D = true) : ExcC K D := by
  unfold excCB at h
  simp only [Bool.and_eq_true, decide_eq_true_eq] at h
  obtain ⟨⟨⟨⟨⟨⟨⟨h1, h2⟩, h3⟩, h4⟩, h5⟩, h6⟩, h7⟩, h8⟩ := h
  exact ⟨h1, h2, h3, h4, h5, h6, h7, h8⟩
def tellKB (K : PySem.W.Frag) (T : Tell) : Bool := T.lcs.all fun c => excCB K (He.ga K c) && decide (PySem.W.exmOne K (.ref (He.ga K c)) (.ref (He.ga K T.c0)) = some true) &&
  decide (((T.cs1 ++ T.cs2).map fun x => PySem.W.kitOne K (.ref (He.ga K c)) (tvU K x)) = ((T.lcs.map fun y => decide (y = c)) ++ [true]).map some)
theorem kits_of {K : PySem.W.Frag} {t : Value} : ∀ (cs : List Str) (bs : List Bool), (cs.map fun x => PySem.W.kitOne K t (tvU K x)) = bs.map some → MiniL.Kits K t (cs.map (tvU K)) bs
  | [], [], _ => .nil
  | [], _ :: _, h => by cases h
  | _ :: _, [], h => by cases h
  | c :: cs, b :: bs, h => by
    rw [List.map_cons, List.map_cons, List.cons.injEq] at h
    exact .cons h.1 (kits_of cs bs h.2)
theorem cns_of {K : PySem.W.Frag} {Y : Cx} : ∀ (cs : List Str), (∀ x, x ∈ cs → MiniL.CN Y x (tvV K x) (tvU K x)) → MiniL.CNs Y cs (cs.map (tvV K)) (cs.map (tvU K))
  | [], _ => .nil
  | c :: cs, h => .cons (h c (List.mem_cons_self ..)) (cns_of cs fun x hx => h x (List.mem_cons_of_mem _ hx))
def Job.tells (J : Job) : Bool := J.lw || J.b.tell.isSome
def Job.tellOk (J : Job) (T : Tell) : Bool := scB [J.ta, T.sn, T.en] [J.ta] J.tt.scope && MiniL.tellB J.ta T.sn T.en T.c0 T.cs1 T.cs2 J.tt.body && decide (J.tt.scope.names.lookup T.sn = some .local) && decide (J.tt.scope.names.lookup T.en = some .local) &&
  !(T.sn == ("__debug__" : Str)) && !(T.sn == ("__classdict__" : Str)) && !(T.en == ("__debug__" : Str)) && !(T.en == ("__classdict__" : Str)) && gl J.tt.scope T.c0 && decide (J.tt.scope.names.lookup ("isinstance" : Str) = some .globalImplicit) && J.b.blts.contains ("isinstance" : Str) && J.b.blts.contains ("ValueError" : Str) &&
  (T.cs1 ++ T.cs2).all (fun x => gl J.tt.scope x && (decide (x = ("ValueError" : Str)) || J.X.contains x)) && T.lcs.all fun x => J.X.contains x
def Job.ex (J : Job) (K : PySem.W.Frag) : Bool := decide (J.tbs K).Nodup && (J.gs.all fun p => match PySem.W.nsIn K mainGlobals p.1 with
  | some (some u) => cB K p.2 u
  | _ => false) && (!J.b.bd || seerB K) && (J.b.pay.all fun p => MiniP.payB K J.file (He.ga K p.1) p.2) && (match J.b.tell with | none => true | some T => tellKB K T)
def defD (x : Str) (t : Txt) : He.DefD := ⟨(x, none), x, x, t.params, t.body, t.scope, [], []⟩
def defP (b : Nb) (p : He.Defn) (t : Txt) : He.DefD := ⟨p, b.name p, b.qual p, t.params, t.body, t.scope, [], []⟩
def dfFa (d : Df) : List He.Fa := match d.me with
  | none => [.glo d.x]
  | some (c, m) => [.glo (Str.ofString c), .cls (Str.ofString c), .meth (Str.ofString c) m, .mkr (Str.ofString c)]
def flFa (p : String × Str) : List He.Fa := [.cls (Str.ofString p.1), .noat (Str.ofString p.1) p.2]
def Job.fn (J : Job) : List He.DefD := (J.ds.zip J.ts).map (fun p => defP J.b p.1.at_ p.2) ++ (if J.tells then [defD J.b.told J.tt] else []) ++ [defD J.law.x J.tlaw]
def Job.fa (J : Job) : List He.Fa := J.ds.flatMap dfFa ++ ((if J.tells then [.glo J.b.told] else []) ++ (match J.b.tell with | none => [] | some T => [.glo T.c0]) ++ [.glo J.law.x]) ++ J.b.blts.map .free ++ J.X.map .glo ++ J.rs.map .exc ++ J.b.fl.flatMap flFa ++ J.X.flatMap fun x => J.X.map fun y => .exm x y (decide (x = y))
def bindB (t : Txt) (ps : List Str) : Prop := ∀ (x q : Str) (kV doc pm : Value) (an : Option Addr) (cdv ct : Value) (us : List Value), us.length = ps.length → bindArgs (PySem.W.fnOf x q t.params t.body t.scope .none kV doc pm an cdv ct) ⟨us, []⟩ = pure (ps.zip us)
structure Job.Ok (J : Job) : Prop where
  len : J.ds.length = J.ts.length
  ds : ((J.ds.zip J.ts).all fun p => okDf J.b J.rs J.ds (J.b.tls.contains p.1.at_) p.1 p.2) = true
  law : okDf J.b J.rs J.ds J.lw J.law J.tlaw = true
  ps : J.law.ps = [("script" : Str)]
  sT : J.lw = true → scB [J.ta] [J.ta] J.tt.scope = true
  hT : J.lw = true → toldB J.b.hs J.ta J.tt.scope J.tt.body = true
  hva : (J.ta == ("__debug__" : Str)) = false
  hca : (J.ta == ("__classdict__" : Str)) = false
  hdt : (J.b.told == ("__debug__" : Str)) = false
  gn : J.b.gn = fun g => (J.gs[g]?).map (·.1)
  hsX : ∀ c s, (c, s) ∈ J.b.hs → c ∈ J.X
  rsX : ∀ c, c ∈ J.rs → c ∈ J.X
  ng : J.b.gxs.contains J.law.at_ = false
  tg : (J.b.tls.all fun p => J.b.gxs.contains p) = true
  tl0 : (J.lw || J.b.tls.isEmpty) = true
  tll : J.b.tls.contains J.law.at_ = false
  lm : J.law.me = none
  mx : (J.ds.all fun d => match d.me with | some (c, _) => decide (d.x = Str.ofString c) | none => true) = true
  k : 3 * (4 * J.k + 4 + J.b.sh) + 5 < 699
  py : (J.b.pay.all fun p => decide ((J.b.pay.lookup p.1).getD Str.empty = p.2) && J.X.contains p.1) = true
  bd : ∀ p, p ∈ J.ds.zip J.ts → bindB p.2 p.1.ps
  bt : J.tells = true → bindB J.tt [J.ta]
  nlq : (J.ds.all fun d => !(J.b.tell.isSome && decide (d.N = J.b.lawN))) = true
  tq : (match J.b.tell with | none => true | some T => J.tellOk T) = true
  bl : bindB J.tlaw [("script" : Str)]
def Job.run (J : Job) (ns : List Int) : R D := runF (progF J.X J.G J.n J.ds J.k) J.n 1 J.law.N.length J.law.m [.frz (ns.map .int)] []
section
variable {J : Job} {K : PySem.W.Frag}
theorem repL_ints {C : List Addr} {M : Addr → Prop} {H : Hp} : ∀ ns : List Int, RepL K C M H (ns.map .int) (ns.map V.int)
  | [] => by unfold RepL; rfl
  | n :: ns => by
    unfold RepL
    exact ⟨_, _, rfl, mk_int, repL_ints ns⟩
theorem job_at (o : J.Ok) {l : PySem.W.OpenLaw} {tf : List He.Defn} {w : World} {mg : Str → Option Value} {fa : Addr} {h : Heap} (etf : tf = (J.law.x, none) :: J.b.gxs)
    (hbd : J.b.bd = false ∨ l.prog.given.tree = none) (hpf : J.b.pay = [] ∨ (l.prog.main.file = J.file ∧ (l.prog.main.scope.names.lookup ("super" : Str)).isSome = false)) (math : ∀ ns : List Int, ns.length ≤ 63 → ∃ δ, J.run ns = .ok (.bl true) δ) (KX : K.In h) (c : He.SaysX J.fa J.fn [] tf J.ex w h K) (G : h.Ns mainGlobals mg) (hmg : mg J.law.x = some (.ref fa)) : LamX.LawAtS l w K (L2.CX l.prog w) (4 * J.k + 4 + J.b.sh) 63 "script" mg fa h := by
  have sd := He.SaysT.d c.t
  have fact : ∀ {f : He.Fa}, f ∈ J.fa → f.ok K = true := fun hf => He.SaysD.facts sd hf
  have defs : ∀ {x : Str} {t : Txt}, defD x t ∈ J.fn → ∃ fd, FunD K x x t.params t.body t.scope [] [] (He.ga K x) fd := fun hf => He.SaysD.defs sd hf
  have defps : ∀ {p : He.Defn} {t : Txt}, defP J.b p t ∈ J.fn → ∃ fd, FunD K (J.b.name p) (J.b.qual p) t.params t.body t.scope [] [] (He.fAd K p) fd := fun hf => He.SaysD.defs sd hf
  have glo : ∀ {x : Str}, He.Fa.glo x ∈ J.fa → mg x = some (.ref (He.ga K x)) := fun hf => He.glo_ok KX G (fact hf)
  have gX : ∀ x, x ∈ J.X → mg x = some (.ref (He.ga K x)) := fun x hx => glo (by unfold Job.fa; simp [hx])
  let Er : Errs K J.X := { xv := fun x => .ref (He.ga K x), xf := fun x => (J.b.pay.lookup x).getD Str.empty, rf := fun x _ => ⟨_, rfl⟩, is := fun x hx y hy => He.exm_ok (fact (f := .exm x y (decide (x = y))) (by
    unfold Job.fa
    refine List.mem_append_right _ (List.mem_flatMap.mpr ⟨x, hx, List.mem_map.mpr ⟨y, hy, rfl⟩⟩))) }
  have hrs : ∀ x, x ∈ J.rs → Rs K mg x (Er.xv x) := fun x hx => by
    obtain ⟨e1, e2, e3, e4⟩ := He.exc_ok (fact (f := .exc x) (by unfold Job.fa; simp [hx]))
    exact ⟨⟨_, rfl, gX x (o.rsX x hx), e2, e1, e3, e4⟩⟩
  obtain ⟨fd, F⟩ := defs (x := J.law.x) (t := J.tlaw) (by unfold Job.fn; simp)
  have td : J.lw = true → TdAt K Er.xv J.b mg := fun hl => by
    have ht : J.tells = true := by unfold Job.tells; rw [hl]; rfl
    obtain ⟨fdt, FT⟩ := defs (x := J.b.told) (t := J.tt) (by unfold Job.fn; simp [ht])
    exact ⟨_, _, J.tt, J.ta, FT, glo (by unfold Job.fa; simp [ht]), FT.bindsN (o.bt ht J.b.told J.b.told), o.sT hl, o.hT hl, o.hva, o.hca, o.hdt, fun c s h => gX c (o.hsX c s h)⟩
  have blf : ∀ x, x ∈ J.b.blts → mg x = none := fun x hx => He.free_ok KX G (fact (f := .free x) (by unfold Job.fa; simp [hx]))
  have tdq0 : (match J.b.tell with | none => true | some T => tellKB K T) = true → TdQ (K := K) Er.xv J.b mg := fun hkit => ⟨fun T eT => by
    have hk := hkit
    rw [eT] at hk
    have ok := o.tq
    rw [eT] at ok
    have ok' : J.tellOk T = true := ok
    unfold Job.tellOk at ok'
    simp only [Bool.and_eq_true, decide_eq_true_eq, Bool.not_eq_true', List.all_eq_true] at ok'
    obtain ⟨⟨⟨⟨⟨⟨⟨⟨⟨⟨⟨⟨⟨k1, k2⟩, k3⟩, k4⟩, k5⟩, k6⟩, k7⟩, k8⟩, k9⟩, k10⟩, k11⟩, k12⟩, k13⟩, k14⟩ := ok'
    have ht : J.tells = true := by unfold Job.tells; rw [eT]; simp
    obtain ⟨fdt, FT⟩ := defs (x := J.b.told) (t := J.tt) (by unfold Job.fn; simp [ht])
    have g9 : J.tt.scope.names.lookup T.c0 = some .globalImplicit ∧ (T.c0 == ("__debug__" : Str)) = false := by
      unfold gl at k9
      rw [Bool.and_eq_true, Bool.not_eq_true'] at k9
      exact ⟨of_decide_eq_true k9.1, k9.2⟩
    have cn : ∀ Y : Cx, Y.env.scope = J.tt.scope → Y.mg = mg → ∀ x, x ∈ T.cs1 ++ T.cs2 → MiniL.CN Y x (tvV K x) (tvU K x) := fun Y e1 e2 x hx => by
      have h := k13 x hx
      obtain ⟨g1, g2⟩ := gl_of (X := Y) e1 h.1
      by_cases hv : x = ("ValueError" : Str)
      · unfold tvV tvU
        rw [if_pos hv, if_pos hv]
        exact ⟨g1, g2, rfl, fun u h => h, .inr ⟨by rw [e2, hv]; exact blf _ (by simpa using k12), by rw [hv]; decide +kernel, by rw [hv]; decide⟩⟩
      · unfold tvV tvU
        rw [if_neg hv, if_neg hv]
        have hX : x ∈ J.X := by
          have := h.2
          simpa [hv] using this
        exact ⟨g1, g2, rfl, fun u h => h, .inl (by rw [e2]; exact gX x hX)⟩
    refine ⟨_, fdt, J.tt, J.ta, .ref (He.ga K T.c0), T.cs1.map (tvV K), T.cs2.map (tvV K), T.cs1.map (tvU K), T.cs2.map (tvU K), ⟨FT, glo (by unfold Job.fa; simp [ht]), FT.bindsN (o.bt ht J.b.told J.b.told), k1, k2, o.hva, o.hca⟩,
      ⟨k3, k4, k5, k6, k7, k8, g9.1, g9.2, glo (by unfold Job.fa; simp [eT]), k10, blf _ (by simpa using k11)⟩, fun Y e1 e2 => ⟨cns_of _ fun x hx => cn Y e1 e2 x (List.mem_append_left _ hx), cns_of _ fun x hx => cn Y e1 e2 x (List.mem_append_right _ hx)⟩, fun x hx => ?_⟩
    have h := List.all_eq_true.mp hk x hx
    simp only [Bool.and_eq_true, decide_eq_true_eq] at h
    obtain ⟨⟨h1, h2⟩, h3⟩ := h
    rw [List.map_append] at h3
    have h4 : (T.cs1.map fun y => PySem.W.kitOne K (.ref (He.ga K x)) (tvU K y)) = (((T.lcs.map fun y => decide (y = x)) ++ [true]).take T.cs1.length).map some := by
      have := congrArg (List.take T.cs1.length) h3
      rw [List.take_append_of_le_length (by rw [List.length_map]; exact Nat.le_refl _), List.take_of_length_le (by rw [List.length_map]; exact Nat.le_refl _), ← List.map_take] at this
      exact this
    have h5 : (T.cs2.map fun y => PySem.W.kitOne K (.ref (He.ga K x)) (tvU K y)) = (((T.lcs.map fun y => decide (y = x)) ++ [true]).drop T.cs1.length).map some := by
      have := congrArg (List.drop T.cs1.length) h3
      rw [← List.map_drop] at this
      rw [← this]
      have e := List.drop_left (l₁ := T.cs1.map fun y => PySem.W.kitOne K (.ref (He.ga K x)) (tvU K y)) (l₂ := T.cs2.map fun y => PySem.W.kitOne K (.ref (He.ga K x)) (tvU K y))
      rw [List.length_map] at e
      exact e.symm
    exact ⟨He.ga K x, _, _, rfl, excCB_ok h1, h2, kits_of _ _ h4, kits_of _ _ h5, List.take_append_drop _ _⟩⟩
  have tdp : ∀ p, J.b.tls.contains p = true → TdAt K Er.xv J.b mg := fun p hp => td (by
    have := o.tl0
    cases hl : J.lw with
    | true => rfl
    | false =>
      rw [hl, Bool.false_or, List.isEmpty_iff] at this
      rw [this] at hp
      cases hp)
  have efa : fa = He.ga K J.law.x := by
    have e := hmg.symm.trans (glo (x := J.law.x) (by unfold Job.fa; simp))
    cases e
    rfl
  subst efa
  let Tb : List (Addr × Str) := ((He.cT K (J.law.x, none)).2, lamQ J.law.x) :: J.b.gxs.map fun x => ((He.cT K x).2, genQ (J.b.gq x) (J.b.qual x))
  obtain ⟨⟨hnd, hex⟩, hsee, hpay, hkit⟩ : ((J.tbs K).Nodup ∧ (J.gs.all fun p => match PySem.W.nsIn K mainGlobals p.1 with
    | some (some u) => cB K p.2 u
    | _ => false) = true) ∧ (!J.b.bd || seerB K) = true ∧ (J.b.pay.all fun p => MiniP.payB K J.file (He.ga K p.1) p.2) = true ∧ (match J.b.tell with | none => true | some T => tellKB K T) = true := by
    have := c.more
    unfold Job.ex at this
    rw [Bool.and_eq_true, Bool.and_eq_true, Bool.and_eq_true, Bool.and_eq_true] at this
    exact ⟨⟨of_decide_eq_true this.1.1.1.1, this.1.1.1.2⟩, this.1.1.2, this.1.2, this.2⟩
  have hnd' : ((He.cT K (J.law.x, none)).2 :: J.b.gxs.map fun x => (He.cT K x).2).Nodup := hnd
  have huL : ∀ p ∈ Tb, p.1 = (He.cT K (J.law.x, none)).2 → p.2 = lamQ J.law.x := fun p hp e => by
    rcases List.mem_cons.mp hp with z | z
    · rw [z]
    · obtain ⟨x, hx, ex⟩ := List.mem_map.mp z
      rw [← ex] at e
      exact absurd (List.mem_map.mpr ⟨x, hx, e⟩) (List.nodup_cons.mp hnd').1
  have huG : ∀ x, x ∈ J.b.gxs → ∀ p ∈ Tb, p.1 = (He.cT K x).2 → p.2 = genQ (J.b.gq x) (J.b.qual x) := fun x hx p hp e => by
    rcases List.mem_cons.mp hp with z | z
    · rw [z] at e
      exact absurd (List.mem_map.mpr ⟨x, hx, e.symm⟩) (List.nodup_cons.mp hnd').1
    · obtain ⟨y, hy, ey⟩ := List.mem_map.mp z
      rw [← ey] at e ⊢
      have inj : ∀ (l : List He.Defn) (a b : He.Defn), (l.map fun x => (He.cT K x).2).Nodup → a ∈ l → b ∈ l → (He.cT K a).2 = (He.cT K b).2 → a = b := fun l => by
        induction l with
        | nil => intro a b _ ha; cases ha
        | cons c l ih =>
          intro a b hn ha hb hab
          have hn' := List.nodup_cons.mp hn
          rcases List.mem_cons.mp ha with e1 | h1
          · rcases List.mem_cons.mp hb with e2 | h2
            · rw [e1, e2]
            · exact absurd (List.mem_map.mpr ⟨b, h2, by rw [← hab, e1]⟩ : (He.cT K c).2 ∈ l.map fun x => (He.cT K x).2) hn'.1
          · rcases List.mem_cons.mp hb with e2 | h2
            · exact absurd (List.mem_map.mpr ⟨a, h1, by rw [hab, e2]⟩ : (He.cT K c).2 ∈ l.map fun x => (He.cT K x).2) hn'.1
            · exact ih a b hn'.2 h1 h2 hab
      rw [inj J.b.gxs y x (List.nodup_cons.mp hnd').2 hy hx e]
  have tdq := tdq0 hkit
  have hd : ∀ base : Heap, (∀ p ∈ tf.map (He.cT K), LamX.TabB base mg p.1 p.2) → ∀ (i : Nat) (d : Df), J.ds[i]? = some d → ∃ t, DfAt K mg J.b Tb base d t ∧ okDf J.b J.rs J.ds (J.b.tls.contains d.at_) d t = true := fun base TBs i d e => by
    have hi := (List.getElem?_eq_some_iff.mp e).1
    have hi' : i < J.ts.length := by rw [← o.len]; exact hi
    have hz : (J.ds.zip J.ts)[i]? = some (d, J.ts[i]) := by
      rw [List.getElem?_zip_eq_some]
      exact ⟨e, List.getElem?_eq_getElem hi'⟩
    have hm := List.mem_of_getElem? hz
    have hmd := List.mem_of_getElem? e
    obtain ⟨fd2, F2⟩ := defps (p := d.at_) (t := J.ts[i]) (by
      unfold Job.fn
      exact List.mem_append_left _ (List.mem_append_left _ (List.mem_map.mpr ⟨(d, J.ts[i]), hm, rfl⟩)))
    have inFa : ∀ f, f ∈ dfFa d → f ∈ J.fa := fun f hf => by
      unfold Job.fa
      simp only [List.mem_append, List.mem_flatMap]
      exact .inl (.inl (.inl (.inl (.inl (.inl ⟨d, hmd, hf⟩)))))
    have hget : Gets K mg d (He.fAd K d.at_) := by
      unfold Gets
      cases q : d.me with
      | none =>
        have e1 : d.at_ = (d.x, none) := by unfold Df.at_; rw [q]; rfl
        rw [e1]
        exact glo (inFa _ (by unfold dfFa; rw [q]; simp))
      | some p =>
        obtain ⟨c, m⟩ := p
        have e1 : d.at_ = (d.x, some m) := by unfold Df.at_; rw [q]; rfl
        have e2 : d.x = Str.ofString c := by
          have := List.all_eq_true.mp o.mx d hmd
          rw [q] at this
          exact of_decide_eq_true this
        rw [e1, e2]
        have k1 : He.Fa.cls (Str.ofString c) ∈ J.fa := inFa _ (by unfold dfFa; rw [q]; simp)
        have k2 : He.Fa.meth (Str.ofString c) m ∈ J.fa := inFa _ (by unfold dfFa; rw [q]; simp)
        have k3 : He.Fa.mkr (Str.ofString c) ∈ J.fa := inFa _ (by unfold dfFa; rw [q]; simp)
        have k4 : He.Fa.glo (Str.ofString c) ∈ J.fa := inFa _ (by unfold dfFa; rw [q]; simp)
        refine ⟨He.cls_ok (fact k1), He.meth_ok (fact k2), fun hmi => ?_⟩
        subst hmi
        exact ⟨He.mkr_ok (fact k3), glo k4⟩
    refine ⟨J.ts[i], ⟨_, fd2, F2, hget, F2.bindsN (o.bd _ hm _ _), fun hx => ?_⟩, List.all_eq_true.mp o.ds _ hm⟩
    have hx' : d.at_ ∈ J.b.gxs := by simpa using hx
    obtain ⟨oc, od, dV, kV, doc, pm, an, cdv, ct, osl, efd, lk, hcd, _, _⟩ := id F2.ex
    obtain ⟨c0, ec⟩ := He.codeIn_ref hcd
    have hcode : fd2.code = .ref c0 := by rw [efd]; exact ec
    have eco : He.codeOf K d.at_ = c0 := He.codeOf_eq lk hcode
    have hin : d.at_ ∈ tf := by rw [etf]; exact List.mem_cons_of_mem _ hx'
    have TB := TBs _ (List.mem_map.mpr ⟨_, hin, rfl⟩)
    refine ⟨c0, (He.cT K d.at_).2, ?_, hcode, List.mem_cons_of_mem _ (List.mem_map.mpr ⟨d.at_, hx', rfl⟩), huG d.at_ hx'⟩
    rw [← eco]
    exact TB
  have hall : ∀ g, ∃ v, (∀ C M H, Rep K C M H (J.G g) v) ∧ ∀ x, J.b.gn g = some x → ∃ u, mg x = some u ∧ RelV v u := fun g => by
    unfold Job.G
    cases q : J.gs[g]? with
    | none =>
      refine ⟨.non, fun _ _ _ => mk_non, fun x e => ?_⟩
      rw [o.gn] at e
      have e' : (J.gs[g]?).map (·.1) = some x := e
      rw [q] at e'
      cases e'
    | some p =>
      have hp := List.all_eq_true.mp hex p (List.mem_of_getElem? q)
      have hp' : (match PySem.W.nsIn K mainGlobals p.1 with
        | some (some u) => cB K p.2 u
        | _ => false) = true := hp
      cases e2 : PySem.W.nsIn K mainGlobals p.1 with
      | none => rw [e2] at hp'; cases hp'
      | some r =>
        cases r with
        | none => rw [e2] at hp'; cases hp'
        | some u =>
          rw [e2] at hp'
          obtain ⟨v, h1, h2⟩ := cB_ok _ _ hp'
          refine ⟨v, h2, fun x e => ?_⟩
          rw [o.gn] at e
          have e' : (J.gs[g]?).map (·.1) = some x := e
          rw [q] at e'
          cases e'
          exact ⟨u, PySem.W.mg_of KX G e2, h1⟩
  let Gv : Nat → V := fun g => Classical.choose (hall g)
  have hG : ∀ g C M H, Rep K C M H (J.G g) (Gv g) := fun g => (Classical.choose_spec (hall g)).1
  have hgl : ∀ g x, J.b.gn g = some x → ∃ u, mg x = some u ∧ RelV (Gv g) u := fun g => (Classical.choose_spec (hall g)).2
  have hbl : ∀ x, x ∈ J.b.blts → mg x = none := fun x hx => He.free_ok KX G (fact (f := .free x) (by unfold Job.fa; simp [hx]))
  have hfl : ∀ c f, (c, f) ∈ J.b.fl → Cls K (clsA K c) ∧ NoAttr K (clsA K c) f := fun c f hcf => by
    have inFa : ∀ x, x ∈ flFa (c, f) → x ∈ J.fa := fun x hx => by
      unfold Job.fa
      simp only [List.mem_append, List.mem_flatMap]
      exact .inl (.inr ⟨(c, f), hcf, hx⟩)
    exact ⟨He.cls_ok (fact (inFa _ (by unfold flFa; simp))), He.noat_ok (fact (inFa _ (by unfold flFa; simp)))⟩
  have hrp : ∀ c f, (c, f) ∈ J.b.pay → Er.xf c = f ∧ Er.xv c = .ref (refA (Er.xv c)) ∧ mg c = some (.ref (refA (Er.xv c))) ∧ MiniP.PayC K l.prog (refA (Er.xv c)) f := fun c f hcf => by
    have h1 := List.all_eq_true.mp o.py _ hcf
    rw [Bool.and_eq_true] at h1
    have h2 := List.all_eq_true.mp hpay _ hcf
    rcases hpf with z | z
    · rw [z] at hcf
      cases hcf
    · exact ⟨of_decide_eq_true h1.1, rfl, gX c (by simpa using h1.2), MiniP.payB_ok h2 z.1 z.2⟩
  have hp : (J.law.x, none) ∈ tf := by rw [etf]; simp
  obtain ⟨oc, od, dV, kV, doc, pm, an, cdv, ct, osl, efd, lk, hcd, _, _⟩ := id F.ex
  obtain ⟨c0, ec⟩ := He.codeIn_ref hcd
  have hcode : fd.code = .ref c0 := by rw [efd]; exact ec
  have eco : He.codeOf K (J.law.x, none) = c0 := He.codeOf_eq lk hcode
  have eT : (He.cT K (J.law.x, none)).1 = c0 := by unfold He.cT; exact eco
  have memT : ∀ p ∈ tf.map (He.cT K), ∃ q ∈ tf, p = He.cT K q := fun p hp => by
    obtain ⟨q, hq, e⟩ := List.mem_map.mp hp
    exact ⟨q, hq, e.symm⟩
  refine ⟨fd, tf.map (He.cT K), spOf Er Tb (runF (progF J.X J.G J.n J.ds J.k) J.n J.law.ps.length J.law.N.length J.law.m), ?_, ?_, ?_, fun s u => ?_, ?_, ?_⟩
  · intro p hp'
    obtain ⟨q, hq, rfl⟩ := memT p hp'
    exact c.empty _ hq
  · intro p hp'
    obtain ⟨q, hq, rfl⟩ := memT p hp'
    exact c.out _ hq
  · intro p hp'
    obtain ⟨q, hq, rfl⟩ := memT p hp'
    exact PySem.W.codeHd_of_K KX (c.hd _ hq)
  · exact F.bindsA (ps := [("script" : Str)]) (o.bl J.law.x J.law.x) s [u] rfl
  · intro H a ns hl _ hTb hS
    obtain ⟨δ, e⟩ := math ns hl
    refine ⟨[], fun _ => False, [.frz (ns.map .int)], [], ⟨fun p hp' => ?_, by simp, rfl, fun a ha => by simp at ha, fun a z => z.elim, fun k ts z => by simp at z⟩, ?_, ?_⟩
    · have hq : ∃ q ∈ tf, p.1 = (He.cT K q).2 := by
        rcases List.mem_cons.mp hp' with z | z
        · exact ⟨_, hp, by rw [z]⟩
        · obtain ⟨x, hx, ex⟩ := List.mem_map.mp z
          refine ⟨x, ?_, by rw [← ex]⟩
          rw [etf]
          exact List.mem_cons_of_mem _ hx
      obtain ⟨q, hq, e⟩ := hq
      have := hTb (He.cT K q) (List.mem_map.mpr ⟨q, hq, rfl⟩)
      rw [← e] at this
      exact LamX.TabS.nil this
    · unfold RepL
      refine ⟨_, [], rfl, ?_, by unfold RepL; rfl⟩
      have hS' : FzK K [] (fun _ => False) H a (ns.map V.int) := by
        rcases hS with (hS | hS) | hS
        · exact .inr (.inl ⟨fun z => z, by simp, hS⟩)
        · exact .inl hS
        · exact .inr (.inr hS)
      unfold Rep
      exact ⟨a, _, rfl, hS', repL_ints ns⟩
    · have e' : runF (progF J.X J.G J.n J.ds J.k) J.n J.law.ps.length J.law.N.length J.law.m [.frz (ns.map .int)] [] = .ok (.bl true) δ := by
        rw [o.ps]
        exact e
      rw [e']
      intro C' H' _ _
      exact ⟨rfl, fun v r => rep_bl r⟩
  · intro base Kb hns TB
    have TB' := TB (He.cT K (J.law.x, none)) (List.mem_map.mpr ⟨_, hp, rfl⟩)
    rw [eT] at TB'
    have L := lib_at (K := K) (X := J.X) (Er := Er) (Tb := Tb) (Gv := Gv) (prog := l.prog) (w := w) (mg := mg) (base := base) (G := J.G) (n := J.n) (b := J.b) (rs := J.rs) (ds := J.ds) hG (hd base TB) tdp (fun p hp => List.all_eq_true.mp o.tg p (by simpa using hp)) (fun d hd => by rw [← Bool.not_eq_true']; exact List.all_eq_true.mp o.nlq d hd) hgl hbl hrs hfl (fun z => ⟨seerB_ok (by rw [z] at hsee; exact hsee) Kb hns, hbd.elim (fun y => by rw [y] at z; cases z) id⟩) hrp J.k J.law.N true false ""
    have := law_okM (Pr := progF J.X J.G J.n J.ds J.k) (n := J.n) hG F o.law L hrs td tdq TB' hcode (List.mem_cons_self ..) huL o.ng
    rw [o.ps] at this ⊢
    rw [show 4 * J.k + 4 + J.b.sh = 4 * J.k + 1 + J.b.sh + 3 by omega]
    exact this
end
end Mini

namespace Mini
open PySem L2

section
variable {α β : Type} {a : α} {d : Dl} {f : α → Dl → R β} {g : α → Dl → O} {c : Str} {p : List D} {σ : Sig}
@[simp] theorem bind_ok : (R.ok a d).bind f = f a d := (rfl)
@[simp] theorem bind_ex : (R.ex c p d : R α).bind f = .ex c p d := (rfl)
@[simp] theorem bind_bad : (R.bad : R α).bind f = .bad := (rfl)
@[simp] theorem then_ok : (R.ok a d).then σ g = g a d := (rfl)
@[simp] theorem then_ex : (R.ex c p d : R α).then σ g = .ex c p σ d := (rfl)
@[simp] theorem then_bad : (R.bad : R α).then σ g = .bad := (rfl)
@[simp] theorem noex_ok : (R.ok a d).noex = .ok a d := (rfl)
@[simp] theorem of_some : R.of (some a) d = .ok a d := (rfl)
@[simp] theorem of_none : R.of (none : Option α) d = .bad := (rfl)
end
section
variable {σ : Sig} {δ : Dl} {h : Sig → Dl → O} {x : D} {c : Str} {p : List D}
@[simp] theorem next_nx : (O.nx σ δ).next h = h σ δ := (rfl)
@[simp] theorem next_rt : (O.rt x δ).next h = .rt x δ := (rfl)
@[simp] theorem next_ex : (O.ex c p σ δ).next h = .ex c p σ δ := (rfl)
@[simp] theorem next_bk : (O.bk σ δ).next h = .bk σ δ := (rfl)
@[simp] theorem next_ct : (O.ct σ δ).next h = .ct σ δ := (rfl)
@[simp] theorem next_bad : (O.bad).next h = .bad := (rfl)
end
@[simp] theorem val_v (v : Sig → Dl → R D) : (Ev.val v).v = v := (rfl)
@[simp] theorem val_t (v : Sig → Dl → R D) (σ : Sig) (δ : Dl) : (Ev.val v).t σ δ = (v σ δ).bind fun x δ => R.of (truthD x) δ := (rfl)
@[simp] theorem val_o (v : Sig → Dl → R D) (σ : Sig) (δ : Dl) : (Ev.val v).o σ δ = (v σ δ).bind fun x δ => (R.of (intOf x) δ).bind fun i δ => .ok (some i) δ := (rfl)
@[simp] theorem tst_v (v : Sig → Dl → R D) (t : Sig → Dl → R Bool) : (Ev.tst v t).v = v := (rfl)
@[simp] theorem tst_t (v : Sig → Dl → R D) (t : Sig → Dl → R Bool) : (Ev.tst v t).t = t := (rfl)
@[simp] theorem arg_a (v : Sig → Dl → R (List D)) : (Ev.arg v).a = v := (rfl)
@[simp] theorem ofB_v (b : Sig → Dl → R Bool) (σ : Sig) (δ : Dl) : (Ev.ofB b).v σ δ = (b σ δ).bind fun k δ => .ok (.bl k) δ := (rfl)
@[simp] theorem ofB_t (b : Sig → Dl → R Bool) : (Ev.ofB b).t = b := (rfl)
section
variable (P : Par)
@[simp] theorem ev_var (i : Nat) : evA' P (.var i) = .val fun σ δ => match σ[i]? with
    | some (some d) => .ok d δ
    | _ => .bad := (rfl)
@[simp] theorem ev_int (i : Int) : evA' P (.int i) = .val fun _ δ => .ok (.int i) δ := (rfl)
@[simp] theorem ev_bl (b : Bool) : evA' P (.bl b) = .val fun _ δ => .ok (.bl b) δ := (rfl)
@[simp] theorem ev_non : evA' P .non = .val fun _ δ => .ok .non δ := (rfl)
@[simp] theorem ev_str (s : Str) : evA' P (.str s) = .val fun _ δ => .ok (.str s) δ := (rfl)
@[simp] theorem ev_ty (n : String) : evA' P (.ty n) = .val fun _ δ => .ok (.ty n) δ := (rfl)
@[simp] theorem ev_glob (g : Nat) : evA' P (.glob g) = .val fun _ δ => .ok (P.G g) δ := (rfl)
@[simp] theorem ev_bin (o : Operator) (a b : E) : evA' P (.bin o a b) = .val fun σ δ => ((evA' P a).v σ δ).bind fun x δ => ((evA' P b).v σ δ).bind fun y δ => R.of (binD o x y) δ := (rfl)
@[simp] theorem ev_fdv (a b : E) : evA' P (.fdv a b) = .val fun σ δ => ((evA' P a).v σ δ).bind fun x δ => ((evA' P b).v σ δ).bind fun y δ => R.of (fdvD x y) δ := (rfl)
@[simp] theorem ev_neg (a : E) : evA' P (.neg a) = .val fun σ δ => ((evA' P a).v σ δ).bind fun x δ => R.of (negD x) δ := (rfl)
@[simp] theorem ev_cmp (o : CmpOp) (a b : E) : evA' P (.cmp o a b) = .ofB fun σ δ => ((evA' P a).v σ δ).bind fun x δ => ((evA' P b).v σ δ).bind fun y δ => R.of (cmpD o x y) δ := (rfl)
@[simp] theorem ev_chain (o o' : CmpOp) (a b c : E) : evA' P (.chain o o' a b c) = .ofB fun σ δ => ((evA' P a).v σ δ).bind fun x δ => ((evA' P b).v σ δ).bind fun y δ => (R.of (cmpD o x y) δ).bind fun k δ =>
      if k then ((evA' P c).v σ δ).bind fun z δ => R.of (cmpD o' y z) δ else .ok false δ := (rfl)
@[simp] theorem ev_and (a b : E) : evA' P (.and a b) = .tst (fun σ δ => ((evA' P a).v σ δ).bind fun x δ => (R.of (truthD x) δ).bind fun k δ => if k then (evA' P b).v σ δ else .ok x δ)
      fun σ δ => ((evA' P a).t σ δ).bind fun k δ => if k then (evA' P b).t σ δ else .ok false δ := (rfl)
@[simp] theorem ev_or (a b : E) : evA' P (.or a b) = .tst (fun σ δ => ((evA' P a).v σ δ).bind fun x δ => (R.of (truthD x) δ).bind fun k δ => if k then .ok x δ else (evA' P b).v σ δ)
      fun σ δ => ((evA' P a).t σ δ).bind fun k δ => if k then .ok true δ else (evA' P b).t σ δ := (rfl)
@[simp] theorem ev_not (a : E) : evA' P (.not a) = .tst (fun σ δ => ((evA' P a).v σ δ).bind fun x δ => (R.of (truthD x) δ).bind fun k δ => .ok (.bl (!k)) δ)
      fun σ δ => ((evA' P a).t σ δ).bind fun k δ => .ok (!k) δ := (rfl)
@[simp] theorem ev_ite (c a b : E) : evA' P (.ite c a b) = .tst (fun σ δ => ((evA' P c).t σ δ).bind fun k δ => if k then (evA' P a).v σ δ else (evA' P b).v σ δ) fun _ _ => .bad := (rfl)
@[simp] theorem ev_tup (a : E) : evA' P (.tup a) = .val fun σ δ => ((evA' P a).a σ δ).bind (seqE .tup) := (rfl)
@[simp] theorem ev_lst (a : E) : evA' P (.lst a) = .val fun σ δ => ((evA' P a).a σ δ).bind (seqE .lst) := (rfl)
@[simp] theorem ev_srt (k : Bool) (a : E) : evA' P (.srt k a) = .val fun σ δ => ((evA' P a).v σ δ).bind fun x δ => R.of (srtD k x) δ := (rfl)
@[simp] theorem ev_cnt (a b : E) : evA' P (.cnt a b) = .val fun σ δ => ((evA' P a).v σ δ).bind fun x δ => if (mlst x).isSome then ((evA' P b).v σ δ).bind fun y δ => R.of (cntD x y) δ else .bad := (rfl)
@[simp] theorem ev_ixm (a b : E) : evA' P (.ixm a b) = .val fun σ δ => ((evA' P a).v σ δ).bind fun x δ => if (mlst x).isSome then ((evA' P b).v σ δ).bind fun y δ => R.of (ixmD x y) δ else .bad := (rfl)
@[simp] theorem ev_lrng (a : E) : evA' P (.lrng a) = .val fun σ δ => ((evA' P a).v σ δ).bind fun x δ => R.of (lrngD x) δ := (rfl)
@[simp] theorem ev_gsm (vs : List Nat) (g : G) (k : IK) (it c e : E) : evA' P (.gsm vs g k it c e) = .val fun σ δ => ((evA' P it).a σ δ).bind fun ds δ => match itemsD δ k ds with
    | none => .bad
    | some xs => if decide (1000000 < xs.length) || !((gSlots g).all fun i => vs.contains i) then .bad else
      (gsGo g (evA' P c).t (evA' P e).v (wipeD σ vs) 0 xs δ).bind fun r δ => .ok (.int r) δ := (rfl)
@[simp] theorem ev_idx (a i : E) : evA' P (.idx a i) = .val fun σ δ => ((evA' P a).v σ δ).bind fun x δ => ((evA' P i).v σ δ).bind fun y δ => R.of (idxD δ x y) δ := (rfl)
@[simp] theorem ev_slc (a lo hi : E) : evA' P (.slc a lo hi) = .val fun σ δ => ((evA' P a).v σ δ).bind fun x δ => ((evA' P lo).o σ δ).bind fun l δ => ((evA' P hi).o σ δ).bind fun h δ => R.of (slcD δ x l h) δ := (rfl)
@[simp] theorem ev_call (f : Nat) (a : E) : evA' P (.call f a) = .val fun σ δ => ((evA' P a).a σ δ).bind (callE P f) := (rfl)
@[simp] theorem ev_blt (b : Blt) (a : E) : evA' P (.blt b a) = .val fun σ δ => ((evA' P a).a σ δ).bind fun ds δ => R.of (bltD δ b ds) δ := (rfl)
@[simp] theorem ev_uni (vs : List Nat) (g : G) (k : IK) (it c : E) (vs1 : List Nat) (g1 : G) (k1 : IK) (it1 c1 e : E) : evA' P (.uni vs g k it c vs1 g1 k1 it1 c1 e) = .val fun σ δ => ((evA' P it).a σ δ).bind fun ds δ => match itemsD δ k ds with
    | none => .bad
    | some xs => if decide (1000 < xs.length) || !((gSlots g).all fun i => vs.contains i) || !((gSlots g1).all fun i => vs1.contains i) then .bad else
      (unO g (evA' P c).t (unF k1 vs1 g1 (evA' P it1).a (evA' P c1).t (evA' P e).v) (wipeD σ vs) [] xs δ).bind fun ks δ =>
        .ok (.tab ks (ks.map fun _ => .bl true)) δ := (rfl)
@[simp] theorem ev_lc (vs : List Nat) (g : G) (k : IK) (it c e : E) : evA' P (.lc vs g k it c e) = .val fun σ δ => ((evA' P it).a σ δ).bind fun ds δ => match itemsD δ k ds with
    | none => .bad
    | some xs => if decide (1000000 < xs.length) || !((gSlots g).all fun i => vs.contains i) then .bad else
      (lcGo g (evA' P c).t (evA' P e).v (wipeD σ vs) xs δ).bind fun ys δ => .ok (.lst ys) δ := (rfl)
@[simp] theorem ev_gx (b : Bool) (vs : List Nat) (g : G) (k : IK) (it c e : E) : evA' P (.gx b vs g k it c e) = .val fun σ δ => ((evA' P it).a σ δ).bind fun ds δ => match itemsD δ k ds with
    | none => .bad
    | some xs => if decide (1000000 < xs.length) || !((gSlots g).all fun i => vs.contains i) then .bad else
      (gxGo b g (evA' P c).t (evA' P e).v (wipeD σ vs) xs δ).bind fun r δ => .ok (.bl r) δ := (rfl)
@[simp] theorem ev_fld (c : String) (f : Str) (a : E) : evA' P (.fld c f a) = .val fun σ δ => ((evA' P a).v σ δ).bind fun x δ => R.of ((insD δ c x).bind fun p => getF p.2 f) δ := (rfl)
@[simp] theorem ev_mcl (c : String) (m : Str) (f : Nat) (o a : E) : evA' P (.mcl c m f o a) = .val fun σ δ => ((evA' P o).v σ δ).bind fun x δ => match insD δ c x with
    | some p => if (getF p.2 m).isNone then ((evA' P a).a σ δ).bind fun ds δ => callE P f (x :: ds) δ else .bad
    | none => .bad := (rfl)
@[simp] theorem ev_mk (c : String) (f : Nat) (a : E) : evA' P (.mk c f a) = .val fun σ δ => ((evA' P a).a σ δ).bind fun ds δ => if ds.any isOwn || decide (c = "dict") then .bad else (callE P f (.cell δ.length :: ds) (δ ++ [[.ty c]])).bind fun d δ' => match d with
    | .non => .ok (.cell δ.length) δ'
    | _ => .bad := (rfl)
@[simp] theorem ev_newc (a : E) : evA' P (.newc a) = .tst (fun σ δ => if isFresh a then ((evA' P a).v σ δ).bind fun d δ => match d with
      | .lst ts => if (insOf ts).isSome then .bad else .ok (.cell δ.length) (δ ++ [ts])
      | _ => .bad
    else .bad) fun _ _ => .bad := (rfl)
@[simp] theorem ev_scope (a : E) : evA' P (.scope a) = .tst (fun σ δ => scopeE δ.length ((evA' P a).v σ δ)) fun _ _ => .bad := (rfl)
@[simp] theorem ev_lend (i : Nat) (a : E) : evA' P (.lend i a) = .tst (fun σ δ => match ownAt σ i with
      | some ts => lendE (isFresh a) ((evA' P a).v (σ.set i (some (.lst ts))) δ)
      | none => .bad) fun σ δ => match ownAt σ i with
      | some ts => lendT ((evA' P a).t (σ.set i (some (.lst ts))) δ)
      | none => .bad := (rfl)
@[simp] theorem ev_sel (fs : List (Str × Nat)) (i : Nat) (a : E) : evA' P (.sel fs i a) = .val fun σ δ => match σ[i]? with
    | some (some (.str s)) => (match selGet fs s none with
      | some f => ((evA' P a).a σ δ).bind (callE P f)
      | none => .bad)
    | _ => .bad := (rfl)
@[simp] theorem ev_tab1 (s : Str) (i : Nat) : evA' P (.tab1 s i) = .val fun σ δ => match σ[i]? with
    | some (some d) => if isOwn d then .bad else .ok (.tab [s] [d]) δ
    | _ => .bad := (rfl)
@[simp] theorem ev_dnew : evA' P .dnew = .tst (fun _ δ => .ok (.cell δ.length) (δ ++ [[.ty "dict"]])) fun _ _ => .bad := (rfl)
@[simp] theorem ev_din (n : Bool) (a d : E) : evA' P (.din n a d) = .ofB fun σ δ => ((evA' P a).v σ δ).bind fun x δ => ((evA' P d).v σ δ).bind fun y δ => R.of ((keyI x).bind fun ks => (dicD δ y).map fun p => if n then !(dLook ks p.2).isSome else (dLook ks p.2).isSome) δ := (rfl)
@[simp] theorem ev_dget (d a : E) : evA' P (.dget d a) = .tst (fun σ δ => ((evA' P d).v σ δ).bind fun y δ => ((evA' P a).v σ δ).bind fun x δ => R.of ((keyI x).bind fun ks => (dicD δ y).bind fun p => dLook ks p.2) δ) fun _ _ => .bad := (rfl)
@[simp] theorem ev_dgeto (d a x : E) : evA' P (.dgeto d a x) = .tst (fun σ δ => ((evA' P d).v σ δ).bind fun y δ => if (dicD δ y).isSome then ((evA' P a).v σ δ).bind fun k δ => ((evA' P x).v σ δ).bind fun z δ => if isOwn z then .bad else R.of ((keyI k).bind fun ks => (dicD δ y).map fun p => (dLook ks p.2).getD z) δ else .bad) fun _ _ => .bad := (rfl)
@[simp] theorem ev_told (hs : List (Str × Str)) (a : E) : evA' P (.told hs a) = .val fun σ δ => toldE P.X hs ((evA' P a).v σ δ) := (rfl)
@[simp] theorem ev_nil : evA' P .nil = .arg fun _ δ => .ok [] δ := (rfl)
@[simp] theorem ev_cons (a b : E) : evA' P (.cons a b) = .arg fun σ δ => ((evA' P a).v σ δ).bind fun x δ => ((evA' P b).a σ δ).bind fun xs δ => .ok (x :: xs) δ := (rfl)
@[simp] theorem ev_np : evA' P .np = { v := fun _ _ => .bad, t := fun _ δ => .ok true δ, o := fun _ δ => .ok none δ, a := fun _ _ => .bad } := (rfl)
@[simp] theorem seqE_eq (k : List D → D) (ds : List D) (δ : Dl) (h : ds.any isOwn = false) (h2 : ds.length ≤ 1000) : seqE k ds δ = .ok (k ds) δ := by
  unfold seqE
  rw [h]
  simp [show ¬ 1000 < ds.length by omega]
variable (n : Nat)
@[simp] theorem ev_skip (σ : Sig) (δ : Dl) : evS P n .skip σ δ = .nx σ δ := (rfl)
@[simp] theorem ev_pass (σ : Sig) (δ : Dl) : evS P n .pass σ δ = .nx σ δ := (rfl)
@[simp] theorem ev_seq (a b : S) (σ : Sig) (δ : Dl) : evS P n (.seq a b) σ δ = (evS P n a σ δ).next (evS P n b) := (rfl)
@[simp] theorem ev_expr (e : E) (σ : Sig) (δ : Dl) : evS P n (.expr e) σ δ = R.then ((evA' P e).v σ δ) σ fun _ δ => .nx σ δ := (rfl)
@[simp] theorem ev_asg (g : G) (e : E) (σ : Sig) (δ : Dl) : evS P n (.asg g e) σ δ = R.then ((evA' P e).v σ δ) σ fun d δ => match setG g d σ with
    | some σ => .nx σ δ
    | none => .bad := (rfl)
@[simp] theorem ev_asgO (i : Nat) (e : E) (σ : Sig) (δ : Dl) : evS P n (.asgO i e) σ δ = R.then ((evA' P e).v σ δ) σ fun d δ => match d with
    | .lst ts => if isFresh e then .nx (σ.set i (some (.own ts))) δ else .bad
    | _ => .bad := (rfl)
@[simp] theorem ev_par (is : List (Nat × Bool)) (a : E) (σ : Sig) (δ : Dl) : evS P n (.par is a) σ δ = if decide ((is.map (·.1)).Nodup) then parGo P σ is a σ δ else .bad := (rfl)
@[simp] theorem ev_asgT (is : List (Nat × Bool)) (a : E) (σ : Sig) (δ : Dl) : evS P n (.asgT is a) σ δ = if decide ((is.map (·.1)).Nodup) && decide (is.length ≤ 1000) then parGo P σ is a σ δ else .bad := (rfl)
@[simp] theorem ev_setx (o ix e : E) (σ : Sig) (δ : Dl) : evS P n (.setx o ix e) σ δ = (match o with
    | .var i => match σ[i]? with
      | some (some (.own ts)) => R.then ((evA' P e).v σ δ) σ fun d δ => R.then ((evA' P ix).v σ δ) σ fun x δ => match intOf x with
        | some z => (match ixN ts.length z with
          | some j => if isOwn d then .bad else .nx (σ.set i (some (.own (ts.set j d)))) δ
          | none => .bad)
        | none => .bad
      | some (some (.cell k)) => R.then ((evA' P e).v σ δ) σ fun d δ => R.then ((evA' P ix).v σ δ) σ fun x δ => match intOf x, cellL δ k with
        | some z, some ts => (match ixN ts.length z with
          | some j => if isOwn d || (insOf (ts.set j d)).isSome then .bad else .nx σ (δ.set k (ts.set j d))
          | none => .bad)
        | _, _ => .bad
      | _ => .bad
    | _ => .bad) := (rfl)
@[simp] theorem ev_setf (c : String) (i : Nat) (f : Str) (e : E) (σ : Sig) (δ : Dl) : evS P n (.setf c i f e) σ δ = (R.then ((evA' P e).v σ δ) σ fun d δ => match σ[i]? with
    | some (some x) => (match insD δ c x with
      | some (k, r) => if isOwn d || decide (1900 < r.length) then .bad else .nx σ (δ.set k (.ty c :: setF f d r))
      | none => .bad)
    | _ => .bad) := (rfl)
@[simp] theorem ev_augf (c : String) (i : Nat) (f : Str) (o : Operator) (e : E) (σ : Sig) (δ : Dl) : evS P n (.augf c i f o e) σ δ = (match σ[i]? with
    | some (some x) => (match insD δ c x with
      | some (_, r) => (match getF r f with
        | some y => R.then ((evA' P e).v σ δ) σ fun d δ => match augD o y d, insD δ c x with
          | some z, some (k, r) => if isOwn z || decide (1900 < r.length) then .bad else .nx σ (δ.set k (.ty c :: setF f z r))
          | _, _ => .bad
        | none => .bad)
      | none => .bad)
    | _ => .bad) := (rfl)
@[simp] theorem ev_dsetd (i : Nat) (k e : E) (σ : Sig) (δ : Dl) : evS P n (.dsetd i k e) σ δ = (match σ[i]? with
    | some (some x) => if (dicD δ x).isSome then R.then ((evA' P k).v σ δ) σ fun kd δ => R.then ((evA' P e).v σ δ) σ fun d δ => (match keyI kd, dicD δ x with
      | some ks, some (c, r) => if isOwn d || decide (1000000 < r.length) then .bad else (match dLook ks r with
        | some _ => .nx σ δ
        | none => .nx σ (δ.set c (.ty "dict" :: dPut ks d r)))
      | _, _ => .bad) else .bad
    | _ => .bad) := (rfl)
@[simp] theorem ev_dput (i : Nat) (k e : E) (σ : Sig) (δ : Dl) : evS P n (.dput i k e) σ δ = (R.then ((evA' P e).v σ δ) σ fun d δ => match σ[i]? with
    | some (some x) => R.then ((evA' P k).v σ δ) σ fun kd δ => (match keyI kd, dicD δ x with
      | some ks, some (c, r) => if isOwn d || decide (1000000 < r.length) then .bad else .nx σ (δ.set c (.ty "dict" :: dPut ks d r))
      | _, _ => .bad)
    | _ => .bad) := (rfl)
@[simp] theorem insOf_int (i : Int) (r : List D) : insOf (.int i :: r) = none := (rfl)
@[simp] theorem insOf_nil : insOf [] = none := (rfl)
@[simp] theorem cellL_eq (δ : Dl) (k : Nat) : cellL δ k = (δ[k]?).bind fun ts => if (insOf ts).isNone then some ts else none := (rfl)
@[simp] theorem ev_aug (i : Nat) (o : Operator) (e : E) (σ : Sig) (δ : Dl) : evS P n (.aug i o e) σ δ = R.then ((evA' P (.var i)).v σ δ) σ fun x δ => R.then ((evA' P e).v σ δ) σ fun y δ => match augD o x y with
    | some z => .nx (σ.set i (some z)) δ
    | none => .bad := (rfl)
@[simp] theorem ev_app (i : Nat) (e : E) (σ : Sig) (δ : Dl) : evS P n (.app i e) σ δ = (match ownAt σ i with
    | some ts => R.then ((evA' P e).v σ δ) σ fun d δ => if isOwn d || decide (1000000 < ts.length) then .bad else .nx (σ.set i (some (.own (ts ++ [d])))) δ
    | none => .bad) := (rfl)
@[simp] theorem ev_ext (i : Nat) (e : E) (σ : Sig) (δ : Dl) : evS P n (.ext i e) σ δ = (match ownAt σ i with
    | some ts => R.then ((evA' P e).v σ δ) σ fun d δ => match d with
      | .lst us => if decide (1000000 < ts.length + us.length) then .bad else .nx (σ.set i (some (.own (ts ++ us)))) δ
      | _ => .bad
    | none => .bad) := (rfl)
@[simp] theorem ev_pop (i : Nat) (σ : Sig) (δ : Dl) : evS P n (.pop i) σ δ = (match ownAt σ i with
    | some ts => if ts.isEmpty then .bad else .nx (σ.set i (some (.own ts.dropLast))) δ
    | none => .bad) := (rfl)
@[simp] theorem ev_if (c : E) (a b : S) (σ : Sig) (δ : Dl) : evS P n (.ite c a b) σ δ = R.then ((evA' P c).t σ δ) σ fun k δ => if k then evS P n a σ δ else evS P n b σ δ := (rfl)
@[simp] theorem ev_whl (c : E) (b : S) (σ : Sig) (δ : Dl) : evS P n (.whl c b) σ δ = whlGo (evA' P c).t (evS P n b) n σ δ := (rfl)
@[simp] theorem ev_for (g : G) (k : IK) (it : E) (b : S) (σ : Sig) (δ : Dl) : evS P n (.for g k it b) σ δ = R.then ((evA' P it).a σ δ) σ fun ds δ => match itemsD δ k ds with
    | some xs => forGo g (evS P n b) xs σ δ
    | none => .bad := (rfl)
@[simp] theorem ev_ret (e : E) (σ : Sig) (δ : Dl) : evS P n (.ret e) σ δ = R.then ((evA' P e).v σ δ) σ fun d δ => if isOwn d then (if isVar e then .rt (demote d) δ else .bad) else .rt d δ := (rfl)
@[simp] theorem ev_retN (σ : Sig) (δ : Dl) : evS P n .retN σ δ = .rt .non δ := (rfl)
@[simp] theorem ev_rais (c : Str) (σ : Sig) (δ : Dl) : evS P n (.rais c) σ δ = if P.X.contains c then .ex c [] σ δ else .bad := (rfl)
@[simp] theorem ev_raisP (c : Str) (e : E) (σ : Sig) (δ : Dl) : evS P n (.raisP c e) σ δ = R.then ((evA' P e).v σ δ) σ fun d δ => if isOwn d || !P.X.contains c then .bad else .ex c [d] σ δ := (rfl)
@[simp] theorem ev_tryF (i : Nat) (e : E) (c : Str) (σ : Sig) (δ : Dl) : evS P n (.tryF i e c) σ δ = if P.X.contains c && decide (i < σ.length) then tryO c σ ((evA' P e).v σ δ) else .bad := (rfl)
@[simp] theorem tryO_ok (c : Str) (σ : Sig) (d : D) (δ : Dl) : tryO c σ (.ok d δ) = .nx σ δ := (rfl)
@[simp] theorem tryO_ex (c c' : Str) (σ : Sig) (p : List D) (δ : Dl) : tryO c σ (.ex c' p δ) = if c' = c then (match p with
    | [d] => if isOwn d then .bad else .rt d δ
    | _ => .bad) else .ex c' p σ δ := (rfl)
@[simp] theorem ev_augx (i : Nat) (ix : E) (o : Operator) (e : E) (σ : Sig) (δ : Dl) : evS P n (.augx i ix o e) σ δ = (match σ[i]? with
    | some (some (.cell k)) => R.then ((evA' P ix).v σ δ) σ fun x δ => (match intOf x, cellL δ k with
      | some z, some ts => if z < 0 then .bad else (match atI ts z with
        | some d0 => R.then ((evA' P e).v σ δ) σ fun y δ => (match augD o d0 y, cellL δ k with
          | some d, some us => (match ixN us.length z with
            | some j => if isOwn d || (insOf (us.set j d)).isSome then .bad else .nx σ (δ.set k (us.set j d))
            | none => .bad)
          | _, _ => .bad)
        | none => .bad)
      | _, _ => .bad)
    | _ => .bad) := (rfl)
@[simp] theorem ev_brk (σ : Sig) (δ : Dl) : evS P n .brk σ δ = .bk σ δ := (rfl)
@[simp] theorem ev_cont (σ : Sig) (δ : Dl) : evS P n .cont σ δ = .ct σ δ := (rfl)
@[simp] theorem ev_frz (i : Nat) (s : S) (σ : Sig) (δ : Dl) : evS P n (.frz i s) σ δ = (match ownAt σ i with
    | some ts => evS P n s (σ.set i (some (.lst ts))) δ
    | none => .bad) := (rfl)
@[simp] theorem par_nil (σ₀ σ : Sig) (δ : Dl) : parGo P σ₀ [] .nil σ δ = .nx σ δ := (rfl)
@[simp] theorem par_cons (σ₀ : Sig) (i : Nat) (w : Bool) (is : List (Nat × Bool)) (a b : E) (σ : Sig) (δ : Dl) : parGo P σ₀ ((i, w) :: is) (.cons a b) σ δ = R.then ((evA' P a).v σ₀ δ) σ₀ fun d δ => match w, d with
    | false, d => if isOwn d then .bad else parGo P σ₀ is b (σ.set i (some d)) δ
    | true, .lst ts => if isFresh a then parGo P σ₀ is b (σ.set i (some (.own ts))) δ else .bad
    | true, _ => .bad := (rfl)
end
@[simp] theorem isOwn_int (i : Int) : isOwn (.int i) = false := (rfl)
@[simp] theorem isOwn_bl (i : Bool) : isOwn (.bl i) = false := (rfl)
@[simp] theorem isOwn_tab (ks : List Str) (ts : List D) : isOwn (.tab ks ts) = false := (rfl)
@[simp] theorem isOwn_str (i : Str) : isOwn (.str i) = false := (rfl)
@[simp] theorem isOwn_non : isOwn .non = false := (rfl)
@[simp] theorem isOwn_ty (i : String) : isOwn (.ty i) = false := (rfl)
@[simp] theorem isOwn_tup (i : List D) : isOwn (.tup i) = false := (rfl)
@[simp] theorem isOwn_lst (i : List D) : isOwn (.lst i) = false := (rfl)
@[simp] theorem isOwn_frz (i : List D) : isOwn (.frz i) = false := (rfl)
@[simp] theorem isOwn_cell (i : Nat) : isOwn (.cell i) = false := (rfl)
@[simp] theorem isOwn_own (i : List D) : isOwn (.own i) = true := (rfl)
@[simp] theorem demote_own (i : List D) : demote (.own i) = .lst i := (rfl)
theorem demote_no {d : D} (h : isOwn d = false) : demote d = d := by cases d <;> first | rfl | cases h
theorem demote_all : ∀ {ds : List D}, ds.any isOwn = false → ds.map demote = ds
  | [], _ => rfl
  | d :: ds, h => by
    rw [List.any_cons, Bool.or_eq_false_iff] at h
    rw [List.map_cons, demote_no h.1, demote_all h.2]
@[simp] theorem setG_name (i : Nat) (d : D) (σ : Sig) : setG (.name i) d σ = if isOwn d then none else some (σ.set i (some d)) := (rfl)
@[simp] theorem setG_tup (is : List Nat) (ds : List D) (σ : Sig) : setG (.tup is) (.tup ds) σ = setMany is ds σ := (rfl)
@[simp] theorem setG_lst (is : List Nat) (ds : List D) (σ : Sig) : setG (.tup is) (.lst ds) σ = setMany is ds σ := (rfl)
@[simp] theorem setMany_nil (σ : Sig) : setMany [] [] σ = some σ := (rfl)
@[simp] theorem setMany_cons (i : Nat) (is : List Nat) (d : D) (ds : List D) (σ : Sig) : setMany (i :: is) (d :: ds) σ = if isOwn d then none else setMany is ds (σ.set i (some d)) := (rfl)
@[simp] theorem wipe_nil (σ : Sig) : wipeD σ [] = σ := (rfl)
@[simp] theorem wipe_cons (σ : Sig) (v : Nat) (vs : List Nat) : wipeD σ (v :: vs) = (wipeD σ vs).set v none := (rfl)
@[simp] theorem gSl_name (i : Nat) : gSlots (.name i) = [i] := (rfl)
@[simp] theorem gSl_tup (is : List Nat) : gSlots (.tup is) = is := (rfl)
@[simp] theorem fr_lst (a : E) : isFresh (.lst a) = true := (rfl)
@[simp] theorem fr_fdv (a b : E) : isFresh (.fdv a b) = false := (rfl)
@[simp] theorem fr_uni (vs : List Nat) (g : G) (k : IK) (it c : E) (vs1 : List Nat) (g1 : G) (k1 : IK) (it1 c1 e : E) : isFresh (.uni vs g k it c vs1 g1 k1 it1 c1 e) = false := (rfl)
@[simp] theorem fr_lc (vs : List Nat) (g : G) (k : IK) (it c e : E) : isFresh (.lc vs g k it c e) = true := (rfl)
@[simp] theorem fr_slc (a b c : E) : isFresh (.slc a b c) = true := (rfl)
@[simp] theorem fr_list (a : E) : isFresh (.blt .list a) = true := (rfl)
@[simp] theorem fr_mul (a b : E) : isFresh (.bin .Mult a b) = true := (rfl)
@[simp] theorem fr_add (a b : E) : isFresh (.bin .Add a b) = true := (rfl)
@[simp] theorem fr_lend (i : Nat) (a : E) : isFresh (.lend i a) = isFresh a := (rfl)
@[simp] theorem isVar_var (i : Nat) : isVar (.var i) = true := (rfl)
@[simp] theorem ownAt_eq (σ : Sig) (i : Nat) : ownAt σ i = (match σ[i]? with
  | some (some (.own ts)) => some ts
  | _ => none) := (rfl)
@[simp] theorem intOf_int (i : Int) : intOf (.int i) = some i := (rfl)
@[simp] theorem tr_int (i : Int) : truthD (.int i) = some (i != 0) := (rfl)
@[simp] theorem tr_bl (i : Bool) : truthD (.bl i) = some i := (rfl)
@[simp] theorem tr_non : truthD .non = some false := (rfl)
@[simp] theorem tr_tup (ts : List D) : truthD (.tup ts) = some (!ts.isEmpty) := (rfl)
@[simp] theorem tr_lst (ts : List D) : truthD (.lst ts) = some (!ts.isEmpty) := (rfl)
@[simp] theorem tr_own (ts : List D) : truthD (.own ts) = some (!ts.isEmpty) := (rfl)
@[simp] theorem bin_add (i j : Int) : binD .Add (.int i) (.int j) = some (.int (i + j)) := (rfl)
@[simp] theorem bin_sub (i j : Int) : binD .Sub (.int i) (.int j) = some (.int (i - j)) := (rfl)
@[simp] theorem bin_subB (a b : Bool) : binD .Sub (.bl a) (.bl b) = some (.int ((if a = true then (1 : Int) else 0) - (if b = true then (1 : Int) else 0))) := (rfl)
@[simp] theorem bin_mod (i j : Int) : binD .Mod (.int i) (.int j) = if j = 0 then none else some (.int (i.fmod j)) := (rfl)
theorem bin_mul (i j : Int) : binD .Mult (.int i) (.int j) = if mulOk i j then some (.int (i * j)) else none := (rfl)
theorem bin_div (i j : Int) : binD .FloorDiv (.int i) (.int j) = if divOk j then some (.int (i.fdiv j)) else none := (rfl)
theorem bin_pow (i j : Int) : binD .Pow (.int i) (.int j) = if powOk i j then some (.int (i ^ j.toNat)) else none := (rfl)
@[simp] theorem aug_add (i j : Int) : augD .Add (.int i) (.int j) = some (.int (i + j)) := (rfl)
@[simp] theorem aug_sub (i j : Int) : augD .Sub (.int i) (.int j) = some (.int (i - j)) := (rfl)
@[simp] theorem neg_int (i : Int) : negD (.int i) = some (.int (-i)) := (rfl)
theorem mulOk_r {i j : Int} (h : small j = true) : mulOk i j = true := by
  unfold mulOk
  rw [h]; simp
theorem mulOk_l {i j : Int} (h : small i = true) : mulOk i j = true := by
  unfold mulOk
  rw [h]; simp
theorem divOk_of {j : Int} (h : j ≠ 0) (h2 : j.natAbs < big) : divOk j = true := by
  unfold divOk
  rw [decide_eq_true h, decide_eq_true h2]; rfl
theorem big_eq : big = 2 ^ 8990 := (rfl)
theorem big_ge : 2 ^ 4000 ≤ big := by rw [big_eq]; exact Nat.pow_le_pow_right (by omega) (by omega)
@[simp] theorem cmp_lt (i j : Int) : cmpD .Lt (.int i) (.int j) = some (decide (i < j)) := (rfl)
@[simp] theorem cmp_le (i j : Int) : cmpD .LtE (.int i) (.int j) = some (decide (i ≤ j)) := (rfl)
@[simp] theorem cmp_gt (i j : Int) : cmpD .Gt (.int i) (.int j) = some (decide (j < i)) := (rfl)
@[simp] theorem cmp_ge (i j : Int) : cmpD .GtE (.int i) (.int j) = some (decide (j ≤ i)) := (rfl)
@[simp] theorem cmp_is (a : D) : cmpD .Is a .non = some (isNonD a) := by cases a <;> rfl
@[simp] theorem cmp_isnot (a : D) : cmpD .IsNot a .non = some (!isNonD a) := by cases a <;> rfl
@[simp] theorem cmp_eq (a b : D) : cmpD .Eq a b = eqD a b := by cases a <;> cases b <;> rfl
@[simp] theorem cmp_ne (a b : D) : cmpD .NotEq a b = (eqD a b).map (!·) := by cases a <;> cases b <;> rfl
mutual
def plain : Nat → D → Bool
  | _, .non => true
  | _, .bl _ => true
  | _, .int _ => true
  | _, .str s => PyData.strOk s
  | k + 1, .tup ts => plainL k ts
  | k + 1, .lst ts => plainL k ts
  | k + 1, .own ts => plainL k ts
  | k + 1, .frz ts => plainL k ts
  | _, _ => false
def plainL : Nat → List D → Bool
  | _, [] => true
  | k, t :: ts => plain k t && plainL k ts
end
mutual
def deqv : D → D → Bool
  | .non, b => (match b with
    | .non => true
    | _ => false)
  | .bl a, b => (match b with
    | .bl c => a == c
    | .int j => (if a then 1 else 0) == j
    | _ => false)
  | .int i, b => (match b with
    | .bl c => i == (if c then 1 else 0)
    | .int j => i == j
    | _ => false)
  | .str x, b => (match b with
    | .str y => x == y
    | _ => false)
  | .tup ts, b => (match b with
    | .tup us => deqvL ts us
    | _ => false)
  | .lst ts, b => (match b with
    | .lst us => deqvL ts us
    | .own us => deqvL ts us
    | .frz us => deqvL ts us
    | _ => false)
  | .own ts, b => (match b with
    | .lst us => deqvL ts us
    | .own us => deqvL ts us
    | .frz us => deqvL ts us
    | _ => false)
  | .frz ts, b => (match b with
    | .lst us => deqvL ts us
    | .own us => deqvL ts us
    | .frz us => deqvL ts us
    | _ => false)
  | .ty _, _ => false
  | .cell _, _ => false
  | .tab _ _, _ => false
def deqvL : List D → List D → Bool
  | [], us => us.isEmpty
  | t :: ts, us => (match us with
    | u :: us => deqv t u && deqvL ts us
    | [] => false)
end
mutual
theorem dat_plain : ∀ (d : D) (k : Nat), plain k d = true → ∃ x, dat d = some x ∧ x.canLay0 = true ∧ x.depth ≤ k
  | .non, k, h => ⟨.none, by unfold dat; rfl, by unfold PyData.canLay0; rfl, by unfold PyData.depth; omega⟩
  | .bl b, k, h => ⟨.bool b, by unfold dat; rfl, by unfold PyData.canLay0; rfl, by unfold PyData.depth; omega⟩
  | .int b, k, h => ⟨.int b, by unfold dat; rfl, by unfold PyData.canLay0; rfl, by unfold PyData.depth; omega⟩
  | .str s, k, h => ⟨.str s, by unfold dat; rfl, by unfold PyData.canLay0; unfold plain at h; exact h, by unfold PyData.depth; omega⟩
  | .ty s, k, h => by cases k <;> (unfold plain at h; cases h)
  | .cell s, k, h => by cases k <;> (unfold plain at h; cases h)
  | .tab _ s, k, h => by cases k <;> (unfold plain at h; cases h)
  | .tup ts, 0, h => by unfold plain at h; cases h
  | .lst ts, 0, h => by unfold plain at h; cases h
  | .own ts, 0, h => by unfold plain at h; cases h
  | .frz ts, 0, h => by unfold plain at h; cases h
  | .tup ts, k + 1, h => by
    unfold plain at h
    obtain ⟨xs, h1, h2, h3⟩ := datL_plain ts k h
    exact ⟨.tuple xs, by unfold dat; rw [h1]; rfl, by unfold PyData.canLay0; exact h2, by unfold PyData.depth; omega⟩
  | .lst ts, k + 1, h => by
    unfold plain at h
    obtain ⟨xs, h1, h2, h3⟩ := datL_plain ts k h
    exact ⟨.list xs, by unfold dat; rw [h1]; rfl, by unfold PyData.canLay0; exact h2, by unfold PyData.depth; omega⟩
  | .own ts, k + 1, h => by
    unfold plain at h
    obtain ⟨xs, h1, h2, h3⟩ := datL_plain ts k h
    exact ⟨.list xs, by unfold dat; rw [h1]; rfl, by unfold PyData.canLay0; exact h2, by unfold PyData.depth; omega⟩
  | .frz ts, k + 1, h => by
    unfold plain at h
    obtain ⟨xs, h1, h2, h3⟩ := datL_plain ts k h
    exact ⟨.list xs, by unfold dat; rw [h1]; rfl, by unfold PyData.canLay0; exact h2, by unfold PyData.depth; omega⟩
theorem datL_plain : ∀ (ds : List D) (k : Nat), plainL k ds = true → ∃ xs, datL ds = some xs ∧ PyData.canLayAll0 xs = true ∧ PyData.depthAll xs ≤ k
  | [], k, h => ⟨[], by unfold datL; rfl, by unfold PyData.canLayAll0; rfl, by unfold PyData.depthAll; omega⟩
  | d :: ds, k, h => by
    unfold plainL at h
    rw [Bool.and_eq_true] at h
    obtain ⟨x, h1, h2, h3⟩ := dat_plain d k h.1
    obtain ⟨xs, g1, g2, g3⟩ := datL_plain ds k h.2
    exact ⟨x :: xs, by unfold datL; rw [h1, g1], by unfold PyData.canLayAll0; rw [h2, g2]; rfl, by unfold PyData.depthAll; omega⟩
end
mutual
theorem eqv_dat : ∀ (a b : D) (x y : PyData), dat a = some x → dat b = some y → x.eqv y = deqv a b
  | .ty s, b, x, y, h, _ => by unfold dat at h; cases h
  | .cell s, b, x, y, h, _ => by unfold dat at h; cases h
  | .tab _ s, b, x, y, h, _ => by unfold dat at h; cases h
  | .non, b, x, y, h, g => by
    unfold dat at h
    cases h
    cases b <;> simp only [dat, Option.map_eq_some_iff] at g <;> first | (cases g; done) | (cases g; simp only [PyData.eqv, deqv]; done) | (obtain ⟨z, _, rfl⟩ := g; simp only [PyData.eqv, deqv])
  | .bl _, b, x, y, h, g => by
    unfold dat at h
    cases h
    cases b <;> simp only [dat, Option.map_eq_some_iff] at g <;> first | (cases g; done) | (cases g; simp only [PyData.eqv, deqv]; done) | (obtain ⟨z, _, rfl⟩ := g; simp only [PyData.eqv, deqv])
  | .int _, b, x, y, h, g => by
    unfold dat at h
    cases h
    cases b <;> simp only [dat, Option.map_eq_some_iff] at g <;> first | (cases g; done) | (cases g; simp only [PyData.eqv, deqv]; done) | (obtain ⟨z, _, rfl⟩ := g; simp only [PyData.eqv, deqv])
  | .str _, b, x, y, h, g => by
    unfold dat at h
    cases h
    cases b <;> simp only [dat, Option.map_eq_some_iff] at g <;> first | (cases g; done) | (cases g; simp only [PyData.eqv, deqv]; done) | (obtain ⟨z, _, rfl⟩ := g; simp only [PyData.eqv, deqv])
  | .tup ts, b, x, y, h, g => by
    unfold dat at h
    rw [Option.map_eq_some_iff] at h
    obtain ⟨xs, h1, rfl⟩ := h
    cases b <;> simp only [dat, Option.map_eq_some_iff] at g <;> first | (cases g; done) | (cases g; simp only [PyData.eqv, deqv]; done) | (obtain ⟨z, g1, rfl⟩ := g; simp only [PyData.eqv, deqv]; done) | (obtain ⟨z, g1, rfl⟩ := g; simp only [PyData.eqv, deqv]; exact eqvAll_dat ts _ xs z h1 g1)
  | .lst ts, b, x, y, h, g => by
    unfold dat at h
    rw [Option.map_eq_some_iff] at h
    obtain ⟨xs, h1, rfl⟩ := h
    cases b <;> simp only [dat, Option.map_eq_some_iff] at g <;> first | (cases g; done) | (cases g; simp only [PyData.eqv, deqv]; done) | (obtain ⟨z, g1, rfl⟩ := g; simp only [PyData.eqv, deqv]; done) | (obtain ⟨z, g1, rfl⟩ := g; simp only [PyData.eqv, deqv]; exact eqvAll_dat ts _ xs z h1 g1)
  | .own ts, b, x, y, h, g => by
    unfold dat at h
    rw [Option.map_eq_some_iff] at h
    obtain ⟨xs, h1, rfl⟩ := h
    cases b <;> simp only [dat, Option.map_eq_some_iff] at g <;> first | (cases g; done) | (cases g; simp only [PyData.eqv, deqv]; done) | (obtain ⟨z, g1, rfl⟩ := g; simp only [PyData.eqv, deqv]; done) | (obtain ⟨z, g1, rfl⟩ := g; simp only [PyData.eqv, deqv]; exact eqvAll_dat ts _ xs z h1 g1)
  | .frz ts, b, x, y, h, g => by
    unfold dat at h
    rw [Option.map_eq_some_iff] at h
    obtain ⟨xs, h1, rfl⟩ := h
    cases b <;> simp only [dat, Option.map_eq_some_iff] at g <;> first | (cases g; done) | (cases g; simp only [PyData.eqv, deqv]; done) | (obtain ⟨z, g1, rfl⟩ := g; simp only [PyData.eqv, deqv]; done) | (obtain ⟨z, g1, rfl⟩ := g; simp only [PyData.eqv, deqv]; exact eqvAll_dat ts _ xs z h1 g1)
theorem eqvAll_dat : ∀ (as bs : List D) (xs ys : List PyData), datL as = some xs → datL bs = some ys → PyData.eqvAll xs ys = deqvL as bs
  | [], [], xs, ys, h, g => by
    unfold datL at h g
    cases h
    cases g
    unfold PyData.eqvAll deqvL
    rfl
  | [], b :: bs, xs, ys, h, g => by
    unfold datL at h g
    cases h
    split at g
    · cases g
      unfold PyData.eqvAll deqvL
      rfl
    · cases g
  | a :: as, [], xs, ys, h, g => by
    unfold datL at h g
    cases g
    split at h
    · cases h
      unfold PyData.eqvAll deqvL
      rfl
    · cases h
  | a :: as, b :: bs, xs, ys, h, g => by
    unfold datL at h g
    split at h
    · rename_i x xs' e1 e2
      cases h
      split at g
      · rename_i y ys' e3 e4
        cases g
        unfold PyData.eqvAll deqvL
        rw [eqv_dat a b x y e1 e3, eqvAll_dat as bs xs' ys' e2 e4]
      · cases g
    · cases h
end
theorem eqD_plain {a b : D} (ha : plain 64 a = true) (hb : plain 64 b = true) : eqD a b = some (deqv a b) := by
  obtain ⟨x, h1, h2, h3⟩ := dat_plain a 64 ha
  obtain ⟨y, g1, g2, g3⟩ := dat_plain b 64 hb
  unfold eqD
  rw [h1, g1]
  have e1 : SeqAt.shaped x = true := by unfold SeqAt.shaped; rw [h2, decide_eq_true h3]; rfl
  have e2 : SeqAt.shaped y = true := by unfold SeqAt.shaped; rw [g2, decide_eq_true g3]; rfl
  simp only [e1, e2, Bool.and_self, if_true]
  rw [eqv_dat a b x y h1 g1]
mutual
theorem deqv_refl : ∀ (a : D) (k : Nat), plain k a = true → deqv a a = true
  | .ty s, k, h => by cases k <;> (unfold plain at h; cases h)
  | .cell s, k, h => by cases k <;> (unfold plain at h; cases h)
  | .non, k, h => by unfold deqv; rfl
  | .bl b, k, h => by unfold deqv; simp
  | .int b, k, h => by unfold deqv; simp
  | .str b, k, h => by unfold deqv; simp
  | .tup ts, 0, h => by unfold plain at h; cases h
  | .lst ts, 0, h => by unfold plain at h; cases h
  | .own ts, 0, h => by unfold plain at h; cases h
  | .frz ts, 0, h => by unfold plain at h; cases h
  | .tup ts, k + 1, h => by unfold plain at h; unfold deqv; exact deqvL_refl ts k h
  | .lst ts, k + 1, h => by unfold plain at h; unfold deqv; exact deqvL_refl ts k h
  | .own ts, k + 1, h => by unfold plain at h; unfold deqv; exact deqvL_refl ts k h
  | .frz ts, k + 1, h => by unfold plain at h; unfold deqv; exact deqvL_refl ts k h
theorem deqvL_refl : ∀ (a : List D) (k : Nat), plainL k a = true → deqvL a a = true
  | [], k, h => by unfold deqvL; rfl
  | a :: as, k, h => by
    unfold plainL at h
    rw [Bool.and_eq_true] at h
    unfold deqvL
    show (deqv a a && deqvL as as) = true
    rw [deqv_refl a k h.1, deqvL_refl as k h.2]; rfl
end
theorem eqD_self {a : D} (h : plain 64 a = true) : eqD a a = some true := by rw [eqD_plain h h, deqv_refl a 64 h]
@[simp] theorem plain_int (k : Nat) (i : Int) : plain k (.int i) = true := by cases k <;> (unfold plain; rfl)
@[simp] theorem plain_bl (k : Nat) (i : Bool) : plain k (.bl i) = true := by cases k <;> (unfold plain; rfl)
@[simp] theorem plain_non (k : Nat) : plain k .non = true := by cases k <;> (unfold plain; rfl)
@[simp] theorem plain_tup (k : Nat) (ts : List D) : plain (k + 1) (.tup ts) = plainL k ts := by unfold plain; rfl
@[simp] theorem plain_lst (k : Nat) (ts : List D) : plain (k + 1) (.lst ts) = plainL k ts := by unfold plain; rfl
@[simp] theorem plain_own (k : Nat) (ts : List D) : plain (k + 1) (.own ts) = plainL k ts := by unfold plain; rfl
@[simp] theorem plainL_nil (k : Nat) : plainL k [] = true := by unfold plainL; rfl
@[simp] theorem plainL_cons (k : Nat) (t : D) (ts : List D) : plainL k (t :: ts) = (plain k t && plainL k ts) := by rw [plainL]
theorem plainL_all {k : Nat} : ∀ {ts : List D}, (∀ t, t ∈ ts → plain k t = true) → plainL k ts = true
  | [], _ => plainL_nil k
  | t :: ts, h => by rw [plainL_cons, h t List.mem_cons_self, plainL_all fun u hu => h u (List.mem_cons_of_mem _ hu)]; rfl
@[simp] theorem eqD_int (i j : Int) : eqD (.int i) (.int j) = some (decide (i = j)) := by
  rw [eqD_plain (plain_int _ _) (plain_int _ _)]
  unfold deqv
  congr 1
@[simp] theorem eqD_bl (i j : Bool) : eqD (.bl i) (.bl j) = some (i == j) := by
  rw [eqD_plain (plain_bl _ _) (plain_bl _ _)]
  unfold deqv
  rfl
@[simp] theorem eqD_non : eqD .non .non = some true := eqD_self (plain_non _)
end Mini

namespace Mini
open PySem L2
def ans : O → R D
  | .nx _ δ => .ok .non δ
  | .rt d δ => if isOwn d then .bad else .ok d δ
  | .ex c p _ δ => .ex c p δ
  | _ => .bad
@[simp] theorem ans_nx (σ : Sig) (δ : Dl) : ans (.nx σ δ) = .ok .non δ := (rfl)
@[simp] theorem ans_rt (d : D) (δ : Dl) : ans (.rt d δ) = if isOwn d then .bad else .ok d δ := (rfl)
@[simp] theorem ans_ex (c : Str) (p : List D) (σ : Sig) (δ : Dl) : ans (.ex c p σ δ) = .ex c p δ := (rfl)
theorem runF_at {P : Par} {n k w : Nat} {s : S} {ds : List D} {δ : Dl} (σ : Sig) (hk : ds.length = k) (h : ds.map some ++ List.replicate (w - ds.length) none = σ) : runF P n k w s ds δ = ans (evS P n s σ δ) := by
  unfold runF
  rw [if_pos hk, h]
  cases evS P n s σ δ <;> rfl
theorem F_at {X : List Str} {G : Nat → D} {n k f : Nat} {ds : List Df} {d : Df} {as : List D} {δ : Dl} (σ : Sig) (hd : ds[f]? = some d) (hk : as.length = d.ps.length) (h : as.map some ++ List.replicate (d.N.length - as.length) none = σ) :
    (progF X G n ds (k + 1)).F f as δ = ans (evS (progF X G n ds k) n d.m σ δ) := by
  show (match ds[f]? with | some d => runF { F := progG X G n ds k, G := G, X := X } n d.ps.length d.N.length d.m as δ | none => .bad) = _
  rw [hd]
  exact runF_at σ hk h
theorem call_ok {P : Par} {f : Nat} {ds : List D} {d : D} {δ δ' : Dl} (h : P.F f ds δ = .ok d δ') (hn : ds.any isOwn = false) (hd : isOwn d = false) : callE P f ds δ = .ok d δ' := by
  unfold callE
  rw [demote_all hn, h]
  simp [hn, hd]
theorem call_ex {P : Par} {f : Nat} {ds : List D} {c : Str} {p : List D} {δ δ' : Dl} (h : P.F f ds δ = .ex c p δ') (hn : ds.any isOwn = false) : callE P f ds δ = .ex c p δ' := by
  unfold callE
  rw [demote_all hn, h]
  simp [hn]
@[simp] theorem forGo_nil (g : G) (b : Sig → Dl → O) (σ : Sig) (δ : Dl) : forGo g b [] σ δ = .nx σ δ := (rfl)
theorem forGo_cons {g : G} {b : Sig → Dl → O} {x : D} {xs : List D} {σ σ1 : Sig} {δ : Dl} (h : setG g x σ = some σ1) : forGo g b (x :: xs) σ δ = (match b σ1 δ with
      | .nx σ δ => forGo g b xs σ δ
      | .ct σ δ => forGo g b xs σ δ
      | .bk σ δ => .nx σ δ
      | o => o) := by
  show (match setG g x σ with | none => O.bad | some σ => _) = _
  rw [h]
  first
    | done
    | (dsimp only; done)
    | (dsimp only; generalize b σ1 δ = o; cases o <;> rfl)
theorem forGo_nx {g : G} {b : Sig → Dl → O} {x : D} {xs : List D} {σ σ1 σ2 : Sig} {δ δ2 : Dl} (h : setG g x σ = some σ1) (h2 : b σ1 δ = .nx σ2 δ2) : forGo g b (x :: xs) σ δ = forGo g b xs σ2 δ2 := by
  rw [forGo_cons h, h2]
@[simp] theorem gxGo_nil (b : Bool) (g : G) (c : Sig → Dl → R Bool) (e : Sig → Dl → R D) (σ : Sig) (δ : Dl) : gxGo b g c e σ [] δ = .ok (!b) δ := (rfl)
@[simp] theorem lcGo_nil (g : G) (c : Sig → Dl → R Bool) (e : Sig → Dl → R D) (σ : Sig) (δ : Dl) : lcGo g c e σ [] δ = .ok [] δ := (rfl)
theorem lcGo_yes {g : G} {c : Sig → Dl → R Bool} {e : Sig → Dl → R D} {x y : D} {xs : List D} {σ σ1 : Sig} {δ δ1 δ2 : Dl} (h : setG g x σ = some σ1) (hc : c σ1 δ = .ok true δ1) (he : e σ1 δ1 = .ok y δ2) (ho : isOwn y = false) :
    lcGo g c e σ (x :: xs) δ = (lcGo g c e σ xs δ2).bind fun ys δ => .ok (y :: ys) δ := by
  show (match setG g x σ with | none => R.bad | some σ2 => _) = _
  rw [h]
  simp only [hc, he, noex_ok, bind_ok, if_true, ho]
  rfl
@[simp] theorem len_map_int (ns : List Int) : (ns.map D.int).length = ns.length := List.length_map ..
@[simp] theorem any_own_int (ns : List Int) : (ns.map D.int).any isOwn = false := by
  rw [List.any_map]
  induction ns with
  | nil => rfl
  | cons n ns ih => rw [List.any_cons, ih]; rfl
theorem atI_nat {α : Type} {xs : List α} {i : Nat} {x : α} (h : xs[i]? = some x) : atI xs (i : Int) = some x := by
  have hi := (List.getElem?_eq_some_iff.mp h).1
  unfold atI ixN
  rw [if_pos (by omega), if_pos (by omega)]
  exact h
@[simp] theorem atI_0 {α : Type} (x : α) (xs : List α) : atI (x :: xs) 0 = some x := atI_nat (i := 0) rfl
@[simp] theorem atI_1 {α : Type} (x y : α) (xs : List α) : atI (x :: y :: xs) 1 = some y := atI_nat (i := 1) rfl
@[simp] theorem atI_2 {α : Type} (x y z : α) (xs : List α) : atI (x :: y :: z :: xs) 2 = some z := atI_nat (i := 2) rfl
@[simp] theorem idx_tup (δ : Dl) (ts : List D) (i : Int) : idxD δ (.tup ts) (.int i) = atI ts i := (rfl)
@[simp] theorem idx_lst (δ : Dl) (ts : List D) (i : Int) : idxD δ (.lst ts) (.int i) = atI ts i := (rfl)
@[simp] theorem idx_own (δ : Dl) (ts : List D) (i : Int) : idxD δ (.own ts) (.int i) = atI ts i := (rfl)
@[simp] theorem idx_frz (δ : Dl) (ts : List D) (i : Int) : idxD δ (.frz ts) (.int i) = atI ts i := (rfl)
@[simp] theorem idx_cell (δ : Dl) (k : Nat) (i : Int) : idxD δ (.cell k) (.int i) = (cellL δ k).bind fun ts => atI ts i := (rfl)
theorem str_add (i j : Str) : binD .Add (.str i) (.str j) = if i.length + j.length ≤ line then some (.str (i ++ j)) else none := (rfl)
@[simp] theorem blt_int (δ : Dl) (i : Int) : bltD δ .int [.int i] = some (.int i) := (rfl)
@[simp] theorem blt_intb (δ : Dl) (i : Bool) : bltD δ .int [.bl i] = some (.int (if i then 1 else 0)) := (rfl)
@[simp] theorem blt_abs (δ : Dl) (i : Int) : bltD δ .abs [.int i] = some (.int i.natAbs) := by
  show some (D.int (if i < 0 then -i else i)) = _
  congr 2
  split <;> omega
@[simp] theorem blt_tup_lst (δ : Dl) (ts : List D) : bltD δ .tuple [.lst ts] = some (.tup ts) := (rfl)
@[simp] theorem blt_tup_tup (δ : Dl) (ts : List D) : bltD δ .tuple [.tup ts] = some (.tup ts) := (rfl)
@[simp] theorem blt_tup_own (δ : Dl) (ts : List D) : bltD δ .tuple [.own ts] = some (.tup ts) := (rfl)
@[simp] theorem blt_list_tup (δ : Dl) (ts : List D) : bltD δ .list [.tup ts] = some (.lst ts) := (rfl)
@[simp] theorem blt_list_lst (δ : Dl) (ts : List D) : bltD δ .list [.lst ts] = some (.lst ts) := (rfl)
@[simp] theorem blt_len_tup (δ : Dl) (ts : List D) : bltD δ .len [.tup ts] = some (.int ts.length) := (rfl)
@[simp] theorem blt_len_lst (δ : Dl) (ts : List D) : bltD δ .len [.lst ts] = some (.int ts.length) := (rfl)
@[simp] theorem blt_len_own (δ : Dl) (ts : List D) : bltD δ .len [.own ts] = some (.int ts.length) := (rfl)
@[simp] theorem blt_isi_ii (δ : Dl) (i : Int) : bltD δ .isi [.int i, .ty "int"] = some (.bl true) := by
  show (some (D.bl true)) = _
  rfl
@[simp] theorem blt_isi_ib (δ : Dl) (i : Int) : bltD δ .isi [.int i, .ty "bool"] = some (.bl false) := by
  show (some (D.bl false)) = _
  rfl
@[simp] theorem items_tup (δ : Dl) (ts : List D) : itemsD δ .seq [.tup ts] = some ts := (rfl)
@[simp] theorem items_lst (δ : Dl) (ts : List D) : itemsD δ .seq [.lst ts] = some ts := (rfl)
@[simp] theorem items_frz (δ : Dl) (ts : List D) : itemsD δ .seq [.frz ts] = some ts := (rfl)
@[simp] theorem items_zipT (δ : Dl) (a b : List D) : itemsD δ .zip [.tup a, .tup b] = some (zipD a b) := (rfl)
@[simp] theorem items_zipL (δ : Dl) (a b : List D) : itemsD δ .zip [.lst a, .lst b] = some (zipD a b) := (rfl)
end Mini

namespace Mini
open PySem PySem.Spec PyProof.Rows L2
def fuel : Nat := 1000000000000
def depth : Nat := 50
def steps : Nat := 200000
def toldHs : List (Str × Str) := []
abbrev g_MOST : Nat := 0
abbrev g_LETTERS : Nat := 1
abbrev g_FIGURES : Nat := 2
abbrev f_law_rounds : Nat := 0
abbrev f_Desk_slope : Nat := 1
abbrev f_is_prime : Nat := 2
abbrev f_made_fractions : Nat := 3
abbrev f_look_paper : Nat := 4
abbrev f_read : Nat := 5
abbrev f_check_expression : Nat := 6
abbrev f_check_whole : Nat := 7
abbrev f_law_roll : Nat := 8
abbrev f_Desk__init : Nat := 9
abbrev f_law_dice : Nat := 10
abbrev f_short : Nat := 11
abbrev f_sloped : Nat := 12
abbrev f_Desk_held : Nat := 13
abbrev f_shared : Nat := 14
abbrev f_look_part : Nat := 15
abbrev f_read_sum : Nat := 16
abbrev f_is_expression : Nat := 17
abbrev f_is_base : Nat := 18
abbrev f_read_product : Nat := 19
abbrev f_power_by : Nat := 20
abbrev f_read_neg : Nat := 21
abbrev f_read_power : Nat := 22
abbrev f_read_one : Nat := 23
abbrev f_read_number : Nat := 24
def e1_law_rounds : E :=
  (.call f_law_dice (.cons (.var 3) .nil))
def m_law_rounds : S :=
  (.seq (.asg (.name 2) (.slc (.var 0) .np (.var 1)))
    (.seq (.ite (.cmp .Eq (.var 2) (.lst .nil))
    (.seq (.asg (.name 2) (.lst (.cons (.int 0) .nil)))
    .skip)
    .skip)
    (.seq (.ret (.lc [3] (.name 3) .seq (.cons (.var 2) .nil) .np e1_law_rounds))
    .skip)))
def d_law_rounds : Df := ⟨"_law_rounds", ["script", "most"], ["script", "most", "cells", "cell"], m_law_rounds, none⟩
def m_Desk_slope : S :=
  (.seq (.asg (.name 2) (.call f_short (.cons (.call f_sloped (.cons (.mcl "Desk" "held" f_Desk_held (.var 0) (.cons (.var 1) .nil)) (.cons (.str "x") .nil))) .nil)))
    .raw)
def d_Desk_slope : Df := ⟨"Desk", ["self", "label"], ["self", "label", "what"], m_Desk_slope, some ("Desk", "slope")⟩
def c1_is_prime : E :=
  (.cmp .LtE (.bin .Mult (.var 1) (.var 1)) (.var 0))
def b1_is_prime : S :=
  (.seq (.ite (.or (.cmp .Eq (.bin .Mod (.var 0) (.var 1)) (.int 0)) (.cmp .Eq (.bin .Mod (.var 0) (.bin .Add (.var 1) (.int 2))) (.int 0)))
    (.seq (.ret (.bl false))
    .skip)
    .skip)
    (.seq (.aug 1 .Add (.int 6))
    .skip))
def t1_is_prime : S :=
  (.seq (.whl c1_is_prime b1_is_prime)
    (.seq (.ret (.bl true))
    .skip))
def m_is_prime : S :=
  (.seq (.expr (.call f_check_whole (.cons (.var 0) (.cons (.int 0) .nil))))
    (.seq (.ite (.cmp .Gt (.var 0) (.glob g_MOST))
    (.seq (.rais "TooLarge")
    .skip)
    .skip)
    (.seq (.ite (.cmp .Lt (.var 0) (.int 4))
    (.seq (.ret (.cmp .Gt (.var 0) (.int 1)))
    .skip)
    .skip)
    (.seq (.ite (.or (.cmp .Eq (.bin .Mod (.var 0) (.int 2)) (.int 0)) (.cmp .Eq (.bin .Mod (.var 0) (.int 3)) (.int 0)))
    (.seq (.ret (.bl false))
    .skip)
    .skip)
    (.seq (.asg (.name 1) (.int 5))
    t1_is_prime)))))
def d_is_prime : Df := ⟨"is_prime", ["number"], ["number", "k"], m_is_prime, none⟩
def m_made_fractions : S :=
  (.seq (.ite (.cmp .Eq (.var 1) (.int 0))
    (.seq (.rais "NoWay")
    .skip)
    .skip)
    (.seq (.asg (.name 2) (.call f_shared (.cons (.var 0) (.cons (.var 1) .nil))))
    (.seq (.ite (.cmp .Lt (.var 1) (.int 0))
    (.seq (.asg (.name 2) (.neg (.var 2)))
    .skip)
    .skip)
    (.seq (.ret (.tup (.cons (.bin .FloorDiv (.var 0) (.var 2)) (.cons (.bin .FloorDiv (.var 1) (.var 2)) .nil))))
    .skip))))
def d_made_fractions : Df := ⟨"made_fractions", ["top", "bottom"], ["top", "bottom", "divisor"], m_made_fractions, none⟩
def m_look_paper : S :=
  (.seq (.expr (.call f_look_part (.cons (.var 0) (.cons (.newc (.lst (.cons (.int 0) .nil))) .nil))))
    .skip)
def d_look_paper : Df := ⟨"look_paper", ["paper"], ["paper"], m_look_paper, none⟩
def m_read : S :=
  (.seq (.ite (.or (.not (.blt .isi (.cons (.var 0) (.cons (.ty "str") .nil)))) (.cmp .Gt (.blt .len (.cons (.var 0) .nil)) (.int 300)))
    (.seq (.raisP "BadText" (.int 0))
    .skip)
    .skip)
    (.seq (.asg (.tup [1, 2]) (.call f_read_sum (.cons (.var 0) (.cons (.int 0) (.cons (.int 0) .nil)))))
    (.seq (.ite (.cmp .Lt (.var 2) (.blt .len (.cons (.var 0) .nil)))
    (.seq (.raisP "BadText" (.var 2))
    .skip)
    .skip)
    (.seq (.ret (.var 1))
    .skip))))
def d_read : Df := ⟨"read", ["text"], ["text", "what", "k"], m_read, none⟩
def m_check_expression : S :=
  (.seq (.ite (.not (.call f_is_expression (.cons (.var 0) .nil)))
    (.seq (.rais "BadForm")
    .skip)
    .skip)
    .skip)
def d_check_expression : Df := ⟨"check_expression", ["thing"], ["thing"], m_check_expression, none⟩
def m_check_whole : S :=
  (.seq (.ite (.or (.not (.blt .isi (.cons (.var 0) (.cons (.ty "int") .nil)))) (.or (.blt .isi (.cons (.var 0) (.cons (.ty "bool") .nil))) (.cmp .Lt (.var 0) (.var 1))))
    (.seq (.rais "BadNumber")
    .skip)
    .skip)
    .skip)
def d_check_whole : Df := ⟨"check_whole", ["number", "least"], ["number", "least"], m_check_whole, none⟩
def m_law_roll : S :=
  (.seq (.ite (.or (.cmp .Eq (.idx (.var 0) (.int 2)) (.int 2)) (.and (.cmp .Eq (.idx (.var 0) (.int 2)) (.int 1)) (.cmp .Gt (.idx (.var 0) (.int 0)) (.int 0))))
    (.seq (.asg (.name 2) (.bin .Mod (.blt .int (.cons (.idx (.var 0) (.int 0)) .nil)) (.var 1)))
    (.seq (.setx (.var 0) (.int 0) (.bin .FloorDiv (.idx (.var 0) (.int 0)) (.var 1)))
    (.seq (.ret (.var 2))
    .skip)))
    .skip)
    (.seq (.setx (.var 0) (.int 2) (.int 0))
    (.seq (.setx (.var 0) (.int 0) (.bin .Mod (.blt .int (.cons (.bin .Add (.bin .Add (.bin .Mult (.idx (.var 0) (.int 0)) (.int 48271)) (.bin .Mult (.idx (.var 0) (.int 1)) (.int 69621))) (.int 11)) .nil)) (.int 2147483647)))
    (.seq (.setx (.var 0) (.int 1) (.bin .Add (.idx (.var 0) (.int 1)) (.int 1)))
    (.seq (.ret (.bin .Mod (.blt .int (.cons (.bin .Add (.bin .FloorDiv (.idx (.var 0) (.int 0)) (.int 7)) (.idx (.var 0) (.int 0))) .nil)) (.var 1)))
    .skip)))))
def d_law_roll : Df := ⟨"_law_roll", ["dice", "many"], ["dice", "many", "found"], m_law_roll, none⟩
def m_Desk__init : S :=
  (.seq (.setf "Desk" 0 "rows" (.tup .nil))
    (.seq (.setf "Desk" 0 "deeds" (.lst .nil))
    (.seq (.setf "Desk" 0 "undone" (.lst .nil))
    .skip)))
def d_Desk__init : Df := ⟨"Desk", ["self"], ["self"], m_Desk__init, some ("Desk", "__init__")⟩
def m_law_dice : S :=
  (.seq (.ite (.chain .Lt .Lt (.bin .Sub (.int 0) (.int 10)) (.var 0) (.int 10))
    (.seq (.ret (.newc (.lst (.cons (.blt .abs (.cons (.var 0) .nil)) (.cons (.int 0) (.cons (.int 2) .nil))))))
    .skip)
    .skip)
    (.seq (.ret (.newc (.lst (.cons (.var 0) (.cons (.bin .Add (.int 1) (.bin .Mod (.blt .int (.cons (.var 0) .nil)) (.int 1009))) (.cons (.blt .int (.cons (.cmp .GtE (.var 0) (.bin .Pow (.int 10) (.int 18))) .nil)) .nil))))))
    .skip))
def d_law_dice : Df := ⟨"_law_dice", ["cell"], ["cell"], m_law_dice, none⟩
def m_short : S :=
  .raw
def d_short : Df := ⟨"short", ["what"], ["what", "parts", "kind", "part"], m_short, none⟩
def m_sloped : S :=
  .raw
def d_sloped : Df := ⟨"sloped", ["what", "name"], ["what", "name", "kind", "one", "other"], m_sloped, none⟩
def b1_Desk_held : S :=
  (.seq (.ite (.cmp .Eq (.var 2) (.var 1))
    (.seq (.ret (.var 3))
    .skip)
    .skip)
    .skip)
def m_Desk_held : S :=
  (.seq (.for (.tup [2, 3]) .seq (.cons (.fld "Desk" "rows" (.var 0)) .nil) b1_Desk_held)
    (.seq (.rais "BadDeed")
    .skip))
def d_Desk_held : Df := ⟨"Desk", ["self", "label"], ["self", "label", "name", "what"], m_Desk_held, some ("Desk", "held")⟩
def c1_shared : E :=
  (.cmp .NotEq (.var 1) (.int 0))
def b1_shared : S :=
  (.seq (.par [(0, false), (1, false)] (.cons (.var 1) (.cons (.bin .Mod (.var 0) (.var 1)) .nil)))
    .skip)
def m_shared : S :=
  (.seq (.par [(0, false), (1, false)] (.cons (.blt .abs (.cons (.var 0) .nil)) (.cons (.blt .abs (.cons (.var 1) .nil)) .nil)))
    (.seq (.whl c1_shared b1_shared)
    (.seq (.ret (.var 0))
    .skip)))
def d_shared : Df := ⟨"shared", ["one", "other"], ["one", "other"], m_shared, none⟩
def c1_look_part : E :=
  (.cmp .Eq (.bin .Mod (.var 3) (.idx (.var 4) (.int 0))) (.int 0))
def b1_look_part : S :=
  (.seq (.aug 3 .FloorDiv (.idx (.var 4) (.int 0)))
    .skip)
def b2_look_part : S :=
  (.seq (.ite (.or (.not (.blt .isi (.cons (.var 4) (.cons (.ty "tuple") .nil)))) (.or (.cmp .NotEq (.blt .len (.cons (.var 4) .nil)) (.int 3)) (.or (.not (.blt .isi (.cons (.idx (.var 4) (.int 0)) (.cons (.ty "int") .nil)))) (.cmp .Lt (.idx (.var 4) (.int 0)) (.int 2)))))
    (.seq (.raisP "BadPaper" (.var 2))
    .skip)
    .skip)
    (.seq (.whl c1_look_part b1_look_part)
    .skip))
def e1_look_part : E :=
  (.idx (.var 4) (.int 0))
def b3_look_part : S :=
  (.seq (.expr (.call f_look_part (.cons (.var 4) (.cons (.var 1) .nil))))
    .skip)
def t1_look_part : S :=
  (.seq (.ite (.cmp .Eq (.var 5) (.int 2))
    (.seq (.ite (.cmp .NotEq (.var 7) (.tup .nil))
    (.seq (.raisP "BadPaper" (.var 2))
    .skip)
    .skip)
    (.seq .retN
    .skip))
    .skip)
    (.seq (.asg (.name 3) (.bin .Sub (.var 5) (.int 1)))
    (.seq (.for (.name 4) .seq (.cons (.var 7) .nil) b2_look_part)
    (.seq (.ite (.or (.cmp .NotEq (.var 3) (.int 1)) (.not (.call f_is_base (.cons (.var 5) (.cons (.var 6) (.cons (.lc [4] (.name 4) .seq (.cons (.var 7) .nil) .np e1_look_part) .nil))))))
    (.seq (.raisP "BadPaper" (.var 2))
    .skip)
    .skip)
    (.seq (.for (.name 4) .seq (.cons (.var 7) .nil) b3_look_part)
    .skip)))))
def m_look_part : S :=
  (.seq (.asg (.name 2) (.idx (.var 1) (.int 0)))
    (.seq (.augx 1 (.int 0) .Add (.int 1))
    (.seq (.ite (.or (.not (.blt .isi (.cons (.var 0) (.cons (.ty "tuple") .nil)))) (.or (.cmp .NotEq (.blt .len (.cons (.var 0) .nil)) (.int 3)) (.or (.not (.blt .isi (.cons (.idx (.var 0) (.int 0)) (.cons (.ty "int") .nil)))) (.cmp .Lt (.idx (.var 0) (.int 0)) (.int 2)))))
    (.seq (.raisP "BadPaper" (.var 2))
    .skip)
    .skip)
    (.seq (.asg (.tup [5, 6, 7]) (.var 0))
    (.seq (.ite (.or (.not (.blt .isi (.cons (.var 6) (.cons (.ty "int") .nil)))) (.not (.blt .isi (.cons (.var 7) (.cons (.ty "tuple") .nil)))))
    (.seq (.raisP "BadPaper" (.var 2))
    .skip)
    .skip)
    t1_look_part)))))
def d_look_part : Df := ⟨"look_part", ["paper", "count"], ["paper", "count", "place", "left", "rest", "number", "base", "rests"], m_look_part, none⟩
def c1_read_sum : E :=
  (.and (.cmp .Lt (.var 1) (.blt .len (.cons (.var 0) .nil))) (.cmp .In (.idx (.var 0) (.var 1)) (.str "+-")))
def b1_read_sum : S :=
  (.seq (.asg (.tup [4, 5]) (.call f_read_product (.cons (.var 0) (.cons (.bin .Add (.var 1) (.int 1)) (.cons (.var 2) .nil)))))
    (.seq (.par [(3, false), (1, false)] (.cons (.tup (.cons (.idx (.var 0) (.var 1)) (.cons (.var 3) (.cons (.var 4) .nil)))) (.cons (.var 5) .nil)))
    .skip))
def m_read_sum : S :=
  (.seq (.asg (.tup [3, 1]) (.call f_read_product (.cons (.var 0) (.cons (.var 1) (.cons (.var 2) .nil)))))
    (.seq (.whl c1_read_sum b1_read_sum)
    (.seq (.ret (.tup (.cons (.var 3) (.cons (.var 1) .nil))))
    .skip)))
def d_read_sum : Df := ⟨"read_sum", ["text", "k", "deep"], ["text", "k", "deep", "what", "other", "after"], m_read_sum, none⟩
def t1_is_expression : S :=
  (.seq (.ite (.cmp .Eq (.var 1) (.str "^"))
    (.seq (.ret (.and (.cmp .Eq (.blt .len (.cons (.var 0) .nil)) (.int 3)) (.and (.call f_is_expression (.cons (.idx (.var 0) (.int 1)) .nil)) (.and (.blt .isi (.cons (.idx (.var 0) (.int 2)) (.cons (.ty "int") .nil))) (.chain .LtE .LtE (.int 0) (.idx (.var 0) (.int 2)) (.int 20))))))
    .skip)
    .skip)
    (.seq (.ret (.and (.cmp .In (.var 1) (.tup (.cons (.str "+") (.cons (.str "-") (.cons (.str "*") (.cons (.str "/") .nil)))))) (.and (.cmp .Eq (.blt .len (.cons (.var 0) .nil)) (.int 3)) (.and (.call f_is_expression (.cons (.idx (.var 0) (.int 1)) .nil)) (.call f_is_expression (.cons (.idx (.var 0) (.int 2)) .nil))))))
    .skip))
def m_is_expression : S :=
  (.seq (.ite (.or (.not (.blt .isi (.cons (.var 0) (.cons (.ty "tuple") .nil)))) (.cmp .Eq (.var 0) (.tup .nil)))
    (.seq (.ret (.bl false))
    .skip)
    .skip)
    (.seq (.asg (.name 1) (.idx (.var 0) (.int 0)))
    (.seq (.ite (.cmp .Eq (.var 1) (.str "number"))
    (.seq (.ret (.and (.cmp .Eq (.blt .len (.cons (.var 0) .nil)) (.int 2)) (.and (.blt .isi (.cons (.idx (.var 0) (.int 1)) (.cons (.ty "int") .nil))) (.and (.not (.blt .isi (.cons (.idx (.var 0) (.int 1)) (.cons (.ty "bool") .nil)))) (.cmp .GtE (.idx (.var 0) (.int 1)) (.int 0))))))
    .skip)
    .skip)
    (.seq (.ite (.cmp .Eq (.var 1) (.str "name"))
    (.seq (.ret (.and (.cmp .Eq (.blt .len (.cons (.var 0) .nil)) (.int 2)) (.and (.blt .isi (.cons (.idx (.var 0) (.int 1)) (.cons (.ty "str") .nil))) (.and (.cmp .Eq (.blt .len (.cons (.idx (.var 0) (.int 1)) .nil)) (.int 1)) (.cmp .In (.idx (.var 0) (.int 1)) (.glob g_LETTERS))))))
    .skip)
    .skip)
    (.seq (.ite (.cmp .Eq (.var 1) (.str "neg"))
    (.seq (.ret (.and (.cmp .Eq (.blt .len (.cons (.var 0) .nil)) (.int 2)) (.call f_is_expression (.cons (.idx (.var 0) (.int 1)) .nil))))
    .skip)
    .skip)
    t1_is_expression)))))
def d_is_expression : Df := ⟨"is_expression", ["thing"], ["thing", "kind"], m_is_expression, none⟩
def e1_is_base : E :=
  (.cmp .NotEq (.call f_power_by (.cons (.var 1) (.cons (.bin .FloorDiv (.bin .Sub (.var 0) (.int 1)) (.var 3)) (.cons (.var 0) .nil)))) (.int 1))
def m_is_base : S :=
  (.seq (.ite (.cmp .NotEq (.call f_power_by (.cons (.var 1) (.cons (.bin .Sub (.var 0) (.int 1)) (.cons (.var 0) .nil)))) (.int 1))
    (.seq (.ret (.bl false))
    .skip)
    .skip)
    (.seq (.ret (.gx false [3] (.name 3) .seq (.cons (.var 2) .nil) .np e1_is_base))
    .skip))
def d_is_base : Df := ⟨"is_base", ["number", "base", "primes"], ["number", "base", "primes", "prime"], m_is_base, none⟩
def c1_read_product : E :=
  (.and (.cmp .Lt (.var 1) (.blt .len (.cons (.var 0) .nil))) (.cmp .In (.idx (.var 0) (.var 1)) (.str "*/")))
def b1_read_product : S :=
  (.seq (.asg (.tup [4, 5]) (.call f_read_neg (.cons (.var 0) (.cons (.bin .Add (.var 1) (.int 1)) (.cons (.var 2) .nil)))))
    (.seq (.par [(3, false), (1, false)] (.cons (.tup (.cons (.idx (.var 0) (.var 1)) (.cons (.var 3) (.cons (.var 4) .nil)))) (.cons (.var 5) .nil)))
    .skip))
def m_read_product : S :=
  (.seq (.asg (.tup [3, 1]) (.call f_read_neg (.cons (.var 0) (.cons (.var 1) (.cons (.var 2) .nil)))))
    (.seq (.whl c1_read_product b1_read_product)
    (.seq (.ret (.tup (.cons (.var 3) (.cons (.var 1) .nil))))
    .skip)))
def d_read_product : Df := ⟨"read_product", ["text", "k", "deep"], ["text", "k", "deep", "what", "other", "after"], m_read_product, none⟩
def c1_power_by : E :=
  (.cmp .Gt (.var 1) (.int 0))
def b1_power_by : S :=
  (.seq (.ite (.cmp .Eq (.bin .Mod (.var 1) (.int 2)) (.int 1))
    (.seq (.asg (.name 3) (.bin .Mod (.bin .Mult (.var 3) (.var 0)) (.var 2)))
    .skip)
    .skip)
    (.seq (.asg (.name 0) (.bin .Mod (.bin .Mult (.var 0) (.var 0)) (.var 2)))
    (.seq (.aug 1 .FloorDiv (.int 2))
    .skip)))
def m_power_by : S :=
  (.seq (.expr (.call f_check_whole (.cons (.var 1) (.cons (.int 0) .nil))))
    (.seq (.expr (.call f_check_whole (.cons (.var 2) (.cons (.int 1) .nil))))
    (.seq (.par [(3, false), (0, false)] (.cons (.bin .Mod (.int 1) (.var 2)) (.cons (.bin .Mod (.var 0) (.var 2)) .nil)))
    (.seq (.whl c1_power_by b1_power_by)
    (.seq (.ret (.var 3))
    .skip)))))
def d_power_by : Df := ⟨"power_by", ["base", "many", "modulus"], ["base", "many", "modulus", "found"], m_power_by, none⟩
def m_read_neg : S :=
  (.seq (.ite (.cmp .Gt (.var 2) (.int 20))
    (.seq (.raisP "BadText" (.var 1))
    .skip)
    .skip)
    (.seq (.ite (.and (.cmp .Lt (.var 1) (.blt .len (.cons (.var 0) .nil))) (.cmp .Eq (.idx (.var 0) (.var 1)) (.str "-")))
    (.seq (.asg (.tup [3, 1]) (.call f_read_neg (.cons (.var 0) (.cons (.bin .Add (.var 1) (.int 1)) (.cons (.bin .Add (.var 2) (.int 1)) .nil)))))
    (.seq (.ret (.tup (.cons (.tup (.cons (.str "neg") (.cons (.var 3) .nil))) (.cons (.var 1) .nil))))
    .skip))
    .skip)
    (.seq (.ret (.call f_read_power (.cons (.var 0) (.cons (.var 1) (.cons (.var 2) .nil)))))
    .skip)))
def d_read_neg : Df := ⟨"read_neg", ["text", "k", "deep"], ["text", "k", "deep", "what"], m_read_neg, none⟩
def c1_read_power : E :=
  (.and (.cmp .Lt (.var 1) (.blt .len (.cons (.var 0) .nil))) (.cmp .Eq (.idx (.var 0) (.var 1)) (.str "^")))
def b1_read_power : S :=
  (.seq (.asg (.tup [4, 5]) (.call f_read_number (.cons (.var 0) (.cons (.bin .Add (.var 1) (.int 1)) .nil))))
    (.seq (.ite (.cmp .Gt (.var 4) (.int 20))
    (.seq (.raisP "BadText" (.bin .Add (.var 1) (.int 1)))
    .skip)
    .skip)
    (.seq (.par [(3, false), (1, false)] (.cons (.tup (.cons (.str "^") (.cons (.var 3) (.cons (.var 4) .nil)))) (.cons (.var 5) .nil)))
    .skip)))
def m_read_power : S :=
  (.seq (.asg (.tup [3, 1]) (.call f_read_one (.cons (.var 0) (.cons (.var 1) (.cons (.var 2) .nil)))))
    (.seq (.whl c1_read_power b1_read_power)
    (.seq (.ret (.tup (.cons (.var 3) (.cons (.var 1) .nil))))
    .skip)))
def d_read_power : Df := ⟨"read_power", ["text", "k", "deep"], ["text", "k", "deep", "what", "number", "after"], m_read_power, none⟩
def m_read_one : S :=
  (.seq (.ite (.or (.cmp .GtE (.var 1) (.blt .len (.cons (.var 0) .nil))) (.cmp .Gt (.var 2) (.int 20)))
    (.seq (.raisP "BadText" (.var 1))
    .skip)
    .skip)
    (.seq (.ite (.cmp .Eq (.idx (.var 0) (.var 1)) (.str "("))
    (.seq (.asg (.tup [4, 1]) (.call f_read_sum (.cons (.var 0) (.cons (.bin .Add (.var 1) (.int 1)) (.cons (.bin .Add (.var 2) (.int 1)) .nil)))))
    (.seq (.ite (.or (.cmp .GtE (.var 1) (.blt .len (.cons (.var 0) .nil))) (.cmp .NotEq (.idx (.var 0) (.var 1)) (.str ")")))
    (.seq (.raisP "BadText" (.var 1))
    .skip)
    .skip)
    (.seq (.ret (.tup (.cons (.var 4) (.cons (.bin .Add (.var 1) (.int 1)) .nil))))
    .skip)))
    .skip)
    (.seq (.ite (.cmp .In (.idx (.var 0) (.var 1)) (.glob g_LETTERS))
    (.seq (.ret (.tup (.cons (.tup (.cons (.str "name") (.cons (.idx (.var 0) (.var 1)) .nil))) (.cons (.bin .Add (.var 1) (.int 1)) .nil))))
    .skip)
    .skip)
    (.seq (.asg (.tup [3, 1]) (.call f_read_number (.cons (.var 0) (.cons (.var 1) .nil))))
    (.seq (.ret (.tup (.cons (.tup (.cons (.str "number") (.cons (.var 3) .nil))) (.cons (.var 1) .nil))))
    .skip)))))
def d_read_one : Df := ⟨"read_one", ["text", "k", "deep"], ["text", "k", "deep", "number", "what"], m_read_one, none⟩
def c1_read_number : E :=
  (.and (.cmp .Lt (.var 1) (.blt .len (.cons (.var 0) .nil))) (.cmp .In (.idx (.var 0) (.var 1)) (.glob g_FIGURES)))
def b1_read_number : S :=
  (.seq (.aug 1 .Add (.int 1))
    .skip)
def m_read_number : S :=
  (.seq (.asg (.name 2) (.var 1))
    (.seq (.whl c1_read_number b1_read_number)
    (.seq (.ite (.or (.cmp .Eq (.var 1) (.var 2)) (.cmp .Gt (.bin .Sub (.var 1) (.var 2)) (.int 12)))
    (.seq (.raisP "BadText" (.var 2))
    .skip)
    .skip)
    (.seq (.ret (.tup (.cons (.blt .int (.cons (.slc (.var 0) (.var 2) (.var 1)) .nil)) (.cons (.var 1) .nil))))
    .skip))))
def d_read_number : Df := ⟨"read_number", ["text", "k"], ["text", "k", "start"], m_read_number, none⟩
def e1_law : E :=
  (.mcl "Desk" "slope" f_Desk_slope (.var 5) (.cons (.bin .Mult (.str "a") (.var 4)) .nil))
def e2_law : E :=
  (.call f_is_prime (.cons (.bin .Add (.int 1000000000000) (.var 4)) .nil))
def e3_law : E :=
  (.call f_made_fractions (.cons (.var 4) (.cons (.int 0) .nil)))
def e4_law : E :=
  (.call f_look_paper (.cons (.tup (.cons (.bin .Mult (.int 4) (.var 4)) (.cons (.int 3) (.cons (.tup .nil) .nil)))) .nil))
def e5_law : E :=
  (.call f_read (.cons (.bin .Add (.blt .str (.cons (.var 4) .nil)) (.str "$")) .nil))
def e6_law : E :=
  (.call f_check_expression (.cons (.var 4) .nil))
def e7_law : E :=
  (.call f_check_whole (.cons (.bin .Sub (.int 0) (.var 4)) (.cons (.int 0) .nil)))
def e8_law : E :=
  (.cmp .Eq (.var 6) (.var 3))
def e9_law : E :=
  (.bin .Add (.lc [6] (.name 6) .rng1 (.cons (.int 7) .nil) .np e8_law) (.lst (.cons (.bl true) .nil)))
def b1_law : S :=
  (.seq (.asg (.tup [4, 5]) (.tup (.cons (.bin .Add (.int 1) (.call f_law_roll (.cons (.var 1) (.cons (.int 900) .nil)))) (.cons (.mk "Desk" f_Desk__init .nil) .nil))))
    (.lams 2 3 ["BadNumber", "BadForm", "BadText", "BadPaper", "NoWay", "TooLarge", "BadDeed"] e9_law (.cons e7_law (.cons e6_law (.cons e5_law (.cons e4_law (.cons e3_law (.cons e2_law (.cons e1_law .nil)))))))))
def m_law : S :=
  (.seq (.for (.name 1) .seq (.cons (.call f_law_rounds (.cons (.var 0) (.cons (.int 3) .nil))) .nil) b1_law)
    (.seq (.ret (.bl true))
    .skip))
def d_law : Df := ⟨"law", ["script"], ["script", "dice", "whats", "k", "many", "desk", "j"], m_law, none⟩
def defs : List Df := [d_law_rounds, d_Desk_slope, d_is_prime, d_made_fractions, d_look_paper, d_read, d_check_expression, d_check_whole, d_law_roll, d_Desk__init, d_law_dice, d_short, d_sloped, d_Desk_held, d_shared, d_look_part, d_read_sum, d_is_expression, d_is_base, d_read_product, d_power_by, d_read_neg, d_read_power, d_read_one, d_read_number]
def errX : List Str := ["BadNumber", "BadForm", "BadText", "BadPaper", "NoWay", "TooLarge", "BadDeed"]
def consts : List (Str × D) := [("MOST", .int (1000000000000)), ("LETTERS", .str "abcdefghijklmnopqrstuvwxyz"), ("FIGURES", .str "0123456789")]
def Gc (g : Nat) : D := match consts[g]? with
  | some p => p.2
  | none => .non
abbrev PF (k : Nat) : Par := progF errX Gc fuel defs k
end Mini
namespace Mini
theorem q_mk (q : Rat) : Rat.divInt q.num q.den = q := by rw [Rat.divInt_ofNat, Rat.mkRat_self]
theorem q_div (q : Rat) : q = (q.num : Rat) / (q.den : Rat) := by
  have := q_mk q
  rw [Rat.divInt_eq_div] at this
  exact this.symm
def Fb (n : Nat) (q : Rat) : Prop := q.num.natAbs < 2 ^ n ∧ q.den < 2 ^ n
theorem Fb.mono {n m : Nat} {q : Rat} (h : Fb n q) (l : n ≤ m) : Fb m q :=
  ⟨Nat.lt_of_lt_of_le h.1 (Nat.pow_le_pow_right (by omega) l), Nat.lt_of_lt_of_le h.2 (Nat.pow_le_pow_right (by omega) l)⟩
theorem divInt_top {t b : Int} : (Rat.divInt t b).num.natAbs ≤ t.natAbs := by
  rw [Rat.num_divInt]
  have h1 : (b.sign * t / (b.gcd t : Nat)).natAbs ≤ (b.sign * t).natAbs := Int.natAbs_ediv_le_natAbs _ _
  have h2 : (b.sign * t).natAbs ≤ t.natAbs := by
    rw [Int.natAbs_mul]
    have : b.sign.natAbs ≤ 1 := by
      rcases Int.lt_trichotomy b 0 with z | z | z
      · rw [Int.sign_eq_neg_one_of_neg z]; decide
      · rw [z]; decide
      · rw [Int.sign_eq_one_of_pos z]; decide
    calc b.sign.natAbs * t.natAbs ≤ 1 * t.natAbs := Nat.mul_le_mul_right _ this
      _ = t.natAbs := Nat.one_mul _
  omega
theorem divInt_bot {t b : Int} (h : b ≠ 0) : (Rat.divInt t b).den ≤ b.natAbs := by
  rw [Rat.den_divInt, if_neg h]
  exact Nat.div_le_self _ _
theorem Fb.divInt {n : Nat} {t b : Int} (h : b ≠ 0) (h1 : t.natAbs < 2 ^ n) (h2 : b.natAbs < 2 ^ n) : Fb n (Rat.divInt t b) :=
  ⟨Nat.lt_of_le_of_lt divInt_top h1, Nat.lt_of_le_of_lt (divInt_bot h) h2⟩

def Hb (n : Nat) (p : List Rat) : Prop := ∃ d : Nat, 0 < d ∧ d < 2 ^ n ∧ ∀ q, q ∈ p → ∃ z : Int, q = (z : Rat) / (d : Rat) ∧ z.natAbs < 2 ^ n
theorem nat_neR {d : Nat} (h : 0 < d) : (d : Rat) ≠ 0 := fun z => by
  have := Rat.natCast_eq_zero_iff.mp z
  omega
theorem Hb.mono {n m : Nat} {p : List Rat} (h : Hb n p) (l : n ≤ m) : Hb m p := by
  obtain ⟨d, h1, h2, h3⟩ := h
  have := Nat.pow_le_pow_right (show 0 < 2 by omega) l
  exact ⟨d, h1, by omega, fun q hq => by
    obtain ⟨z, e, hz⟩ := h3 q hq
    exact ⟨z, e, by omega⟩⟩
theorem Hb.sub {n : Nat} {p r : List Rat} (h : Hb n p) (hs : ∀ q, q ∈ r → q ∈ p) : Hb n r := by
  obtain ⟨d, h1, h2, h3⟩ := h
  exact ⟨d, h1, h2, fun q hq => h3 q (hs q hq)⟩
theorem Fb.hb {n : Nat} {q : Rat} (h : Fb n q) : Hb n [q] := by
  refine ⟨q.den, q.den_pos, h.2, fun r hr => ?_⟩
  rw [List.mem_singleton.mp hr]
  exact ⟨q.num, q_div q, h.1⟩
theorem Hb.zero {n : Nat} {p : List Rat} (h : Hb n p) : Hb n (0 :: p) := by
  obtain ⟨d, h1, h2, h3⟩ := h
  refine ⟨d, h1, h2, fun q hq => ?_⟩
  rcases List.mem_cons.mp hq with e | hq
  · refine ⟨0, ?_, Nat.two_pow_pos n⟩
    rw [e]
    have := nat_neR h1
    grind
  · exact h3 q hq
end Mini
namespace Mini
def cf (p : List Rat) (k : Nat) : Rat := p.getD k 0
@[simp] theorem cf_nil (k : Nat) : cf [] k = 0 := rfl
@[simp] theorem cf_zero (a : Rat) (p : List Rat) : cf (a :: p) 0 = a := rfl
@[simp] theorem cf_succ (a : Rat) (p : List Rat) (k : Nat) : cf (a :: p) (k + 1) = cf p k := rfl
def ev : List Rat → Rat → Rat
  | [], _ => 0
  | a :: p, x => a + x * ev p x
@[simp] theorem evq_nil (x : Rat) : ev [] x = 0 := rfl
end Mini
namespace Mini
open PySem L2
def fr (q : Rat) : D := .tup [.int q.num, .int q.den]
theorem fr_eq (q : Rat) : fr q = .tup [.int q.num, .int q.den] := (rfl)
def pl (p : List Rat) : D := .tup (p.map fr)
theorem pl_eq (p : List Rat) : pl p = .tup (p.map fr) := (rfl)
@[simp] theorem isOwn_fr (q : Rat) : isOwn (fr q) = false := (rfl)
@[simp] theorem isOwn_pl (q : List Rat) : isOwn (pl q) = false := (rfl)
@[simp] theorem idx_fr0 (δ : Dl) (q : Rat) : idxD δ (fr q) (.int 0) = some (.int q.num) := (rfl)
@[simp] theorem idx_fr1 (δ : Dl) (q : Rat) : idxD δ (fr q) (.int 1) = some (.int q.den) := (rfl)
@[simp] theorem fr_own_any (p : List Rat) : (p.map fr).any isOwn = false := by
  induction p with
  | nil => rfl
  | cons a p ih => rw [List.map_cons, List.any_cons, ih]; rfl
theorem plain_fr (k : Nat) (q : Rat) : plain (k + 1) (fr q) = true := by rw [fr_eq, plain_tup, plainL_cons, plainL_cons, plain_int, plain_int, plainL_nil]; rfl
theorem plainL_fr (k : Nat) (p : List Rat) : plainL (k + 1) (p.map fr) = true := plainL_all fun t ht => by
  obtain ⟨q, _, rfl⟩ := List.mem_map.mp ht
  exact plain_fr k q
theorem plain_pl (k : Nat) (p : List Rat) : plain (k + 2) (pl p) = true := by rw [pl_eq, plain_tup, plainL_fr]
theorem deqv_tup (ts us : List D) : deqv (.tup ts) (.tup us) = deqvL ts us := by rw [deqv]
theorem deqv_lst (ts us : List D) : deqv (.lst ts) (.lst us) = deqvL ts us := by rw [deqv]
theorem deqv_int (i j : Int) : deqv (.int i) (.int j) = (i == j) := by rw [deqv]
theorem deqvL_nil (us : List D) : deqvL [] us = us.isEmpty := by rw [deqvL]
theorem deqvL_cons (t u : D) (ts us : List D) : deqvL (t :: ts) (u :: us) = (deqv t u && deqvL ts us) := by rw [deqvL]
theorem deqvL_cn (t : D) (ts : List D) : deqvL (t :: ts) [] = false := by rw [deqvL]
theorem deqv_fr (a b : Rat) : deqv (fr a) (fr b) = decide (a = b) := by
  rw [fr_eq, fr_eq, deqv_tup, deqvL_cons, deqvL_cons, deqv_int, deqv_int, deqvL_nil]
  rw [Bool.eq_iff_iff]
  simp only [List.isEmpty_nil, Bool.and_true, Bool.and_eq_true, beq_iff_eq, decide_eq_true_eq]
  constructor
  · rintro ⟨h1, h2⟩
    exact Rat.ext h1 (by omega)
  · intro h; subst h; exact ⟨rfl, rfl⟩
theorem deqvL_fr : ∀ (p q : List Rat), deqvL (p.map fr) (q.map fr) = decide (p = q)
  | [], [] => by rw [List.map_nil, deqvL_nil]; rfl
  | [], b :: q => by rw [List.map_nil, deqvL_nil]; rfl
  | a :: p, [] => by rw [List.map_cons, List.map_nil, deqvL_cn]; rfl
  | a :: p, b :: q => by
    rw [List.map_cons, List.map_cons, deqvL_cons, deqv_fr, deqvL_fr p q, Bool.eq_iff_iff]
    simp
@[simp] theorem eqD_fr (a b : Rat) : eqD (fr a) (fr b) = some (decide (a = b)) := by rw [eqD_plain (plain_fr _ _) (plain_fr _ _), deqv_fr]
@[simp] theorem eqD_pl (p q : List Rat) : eqD (pl p) (pl q) = some (decide (p = q)) := by rw [eqD_plain (plain_pl _ _) (plain_pl _ _), pl_eq, pl_eq, deqv_tup, deqvL_fr]
@[simp] theorem eqD_lfr (p q : List Rat) : eqD (.lst (p.map fr)) (.lst (q.map fr)) = some (decide (p = q)) := by rw [eqD_plain (by rw [plain_lst]; exact plainL_fr 62 p) (by rw [plain_lst]; exact plainL_fr 62 q), deqv_lst, deqvL_fr]
theorem plNil : D.tup [] = pl [] := (rfl)
@[simp] theorem eqD_plnil (p : List Rat) : eqD (pl p) (.tup []) = some (decide (p = [])) := by rw [plNil, eqD_pl]
@[simp] theorem idx_pl (δ : Dl) (p : List Rat) (i : Int) : idxD δ (pl p) (.int i) = atI (p.map fr) i := (rfl)
@[simp] theorem blt_len_pl (δ : Dl) (p : List Rat) : bltD δ .len [pl p] = some (.int p.length) := by rw [pl_eq, blt_len_tup, List.length_map]
@[simp] theorem blt_list_pl (δ : Dl) (p : List Rat) : bltD δ .list [pl p] = some (.lst (p.map fr)) := (rfl)
@[simp] theorem blt_tup_pl (δ : Dl) (p : List Rat) : bltD δ .tuple [pl p] = some (pl p) := (rfl)
@[simp] theorem items_pl (δ : Dl) (p : List Rat) : itemsD δ .seq [pl p] = some (p.map fr) := (rfl)
@[simp] theorem items_plrev (δ : Dl) (p : List Rat) : itemsD δ .rev [pl p] = some (p.reverse.map fr) := by rw [List.map_reverse]; rfl
@[simp] theorem max2_nat (δ : Dl) (a b : Nat) : bltD δ .max2 [.int (a : Int), .int (b : Int)] = some (.int ((max a b : Nat) : Int)) := by
  show some (D.int (if (b : Int) > a then b else a)) = _
  congr 2
  split <;> omega
end Mini
namespace Mini
open PySem L2
end Mini
namespace Mini
open PySem L2
@[simp] theorem progF_X (X : List Str) (G : Nat → D) (n : Nat) (ds : List Df) (k : Nat) : (progF X G n ds k).X = X := rfl
end Mini
namespace Mini
open PySem L2
def Tri (t : List D) : Prop := ∃ a b c : Int, t = [.int a, .int b, .int c]
structure Dcs (n : Nat) (δ : Dl) : Prop where
  len : δ.length = n
  tri : ∀ t, t ∈ δ → Tri t
theorem Dcs.at_ {n k : Nat} {δ : Dl} (h : Dcs n δ) (hk : k < n) : ∃ a b c : Int, δ[k]? = some [.int a, .int b, .int c] := by
  have hk' : k < δ.length := by rw [h.len]; exact hk
  obtain ⟨a, b, c, e⟩ := h.tri δ[k] (List.getElem_mem _)
  exact ⟨a, b, c, by rw [List.getElem?_eq_getElem hk', e]⟩
theorem Dcs.set {n k : Nat} {δ : Dl} {a b c : Int} (h : Dcs n δ) : Dcs n (δ.set k [.int a, .int b, .int c]) :=
  ⟨by rw [List.length_set]; exact h.len, fun t ht => by
    rcases List.mem_or_eq_of_mem_set ht with z | z
    · exact h.tri t z
    · exact ⟨a, b, c, z⟩⟩
theorem ix3_0 : ixN 3 0 = some 0 := rfl
theorem ix3_1 : ixN 3 1 = some 1 := rfl
theorem ix3_2 : ixN 3 2 = some 2 := rfl
theorem fmod_pos (a b : Int) (h : 0 < b) : a.fmod b = a % b := Int.fmod_eq_emod_of_nonneg _ (by omega)
theorem fdiv_pos (a b : Int) (h : 0 < b) : a.fdiv b = a / b := Int.fdiv_eq_ediv_of_nonneg _ (by omega)
theorem lt_big {i : Int} (h : i.natAbs < 2 ^ 62) : i.natAbs < big := Nat.lt_of_lt_of_le h (Nat.le_trans (Nat.pow_le_pow_right (by omega) (by omega)) big_ge)
theorem set_at {δ : Dl} {k : Nat} {x y : List D} (h : δ[k]? = some x) : (δ.set k y)[k]? = some y := List.getElem?_set_self (List.getElem?_eq_some_iff.mp h).1
theorem set_set_at {δ : Dl} {k : Nat} {x y : List D} : (δ.set k x).set k y = δ.set k y := List.set_set ..
theorem C_dice (k : Nat) (δ : Dl) (c : Int) : ∃ t, Tri t ∧ callE (PF (k + 1)) f_law_dice [.int c] δ = .ok (.cell δ.length) (δ ++ [t]) := by
  have pw : powOk 10 18 = true := by decide
  by_cases h : -10 < c ∧ c < 10
  · refine ⟨_, ⟨c.natAbs, 0, 2, rfl⟩, call_ok ?_ rfl rfl⟩
    rw [F_at (d := d_law_dice) [some (.int c)] rfl rfl rfl]
    simp only [d_law_dice, m_law_dice]
    simp [h]
  · refine ⟨_, ⟨c, 1 + c.fmod 1009, if 10 ^ 18 ≤ c then 1 else 0, rfl⟩, call_ok ?_ rfl rfl⟩
    rw [F_at (d := d_law_dice) [some (.int c)] rfl rfl rfl]
    simp only [d_law_dice, m_law_dice]
    by_cases h1 : -10 < c
    · have h2 : ¬ c < 10 := fun z => h ⟨h1, z⟩
      simp [h1, h2, bin_pow, pw]
    · simp [h1, bin_pow, pw]
theorem lc_dice (k : Nat) (σ : Sig) (hσ : σ.length = 4) : ∀ (cs : List Int) (δ : Dl), ∃ ts : List (List D), (∀ t, t ∈ ts → Tri t) ∧ ts.length = cs.length ∧
    lcGo (.name 3) (fun _ δ => .ok true δ) (evA' (PF (k + 1)) e1_law_rounds).v σ (cs.map .int) δ = .ok ((List.range cs.length).map fun i => .cell (δ.length + i)) (δ ++ ts)
  | [], δ => ⟨[], by simp, rfl, by simp⟩
  | c :: cs, δ => by
    obtain ⟨t, ht, e⟩ := C_dice k δ c
    obtain ⟨ts, h1, h2, h3⟩ := lc_dice k σ hσ cs (δ ++ [t])
    refine ⟨t :: ts, fun u hu => (List.mem_cons.mp hu).elim (fun z => by rw [z]; exact ht) (h1 u), by simp [h2], ?_⟩
    obtain ⟨a, b, x, y, rfl⟩ : ∃ a b x y, σ = [a, b, x, y] := by
      rcases σ with _ | ⟨a, _ | ⟨b, _ | ⟨x, _ | ⟨y, _ | ⟨_, _⟩⟩⟩⟩⟩ <;> simp at hσ
      exact ⟨_, _, _, _, rfl⟩
    rw [List.map_cons, lcGo_yes (σ1 := [a, b, x, some (.int c)]) (δ1 := δ) (δ2 := δ ++ [t]) (y := .cell δ.length) (by simp) rfl (by simp [e1_law_rounds, e]) rfl, h3]
    simp [List.range_succ_eq_map]
    intro i _
    omega
theorem cut_map (f : Int → D) (xs : List Int) (lo hi : Option Int) : ∃ ys : List Int, cutD (xs.map f) lo hi = ys.map f ∧ ys.length ≤ xs.length := by
  refine ⟨(xs.drop (HT.sIx xs.length 0 lo)).take (HT.sIx xs.length xs.length hi - HT.sIx xs.length 0 lo), ?_, ?_⟩
  · unfold cutD
    rw [List.length_map, List.map_take, List.map_drop]
  · rw [List.length_take, List.length_drop]
    omega
theorem plain_ints (k : Nat) (ns : List Int) : plainL k (ns.map .int) = true := plainL_all fun t ht => by
  obtain ⟨n, _, rfl⟩ := List.mem_map.mp ht
  exact plain_int _ _
@[simp] theorem eqD_ints_nil (ns : List Int) : eqD (.lst (ns.map .int)) (.lst []) = some ns.isEmpty := by
  rw [eqD_plain (by rw [plain_lst]; exact plain_ints _ _) (by simp)]
  cases ns <;> (unfold deqv; simp only []; unfold deqvL; rfl)
@[simp] theorem seqE_nil (f : List D → D) (δ : Dl) : seqE f [] δ = .ok (f []) δ := rfl
theorem C_rounds (k : Nat) (ns : List Int) (h : ns.length ≤ 63) (m : Int) : ∃ (n : Nat) (δ' : Dl), Dcs n δ' ∧ callE (PF (k + 2)) f_law_rounds [.frz (ns.map .int), .int m] [] = .ok (.lst ((List.range n).map .cell)) δ' := by
  obtain ⟨ys, e, hl⟩ := cut_map .int ns none (some m)
  have fin : ∀ (σ : Sig) (cs : List Int), σ.length = 4 → ∃ δ' : Dl, Dcs cs.length δ' ∧ lcGo (.name 3) (fun _ δ => .ok true δ) (evA' (PF (k + 1)) e1_law_rounds).v σ (cs.map .int) [] = .ok ((List.range cs.length).map .cell) δ' := by
    intro σ cs hσ
    obtain ⟨ts, h1, h2, h3⟩ := lc_dice k σ hσ cs []
    refine ⟨[] ++ ts, ⟨by rw [List.nil_append]; exact h2, fun t ht => h1 t (by simpa using ht)⟩, ?_⟩
    rw [h3]
    congr 1
    refine List.map_congr_left fun i _ => ?_
    simp
  have sl : slcD [] (.frz (ns.map .int)) none (some m) = some (.lst (ys.map .int)) := by
    show some (D.lst (cutD (ns.map .int) none (some m))) = _
    rw [e]
  cases hy : ys with
  | nil =>
    obtain ⟨δ', d1, d2⟩ := fin [some (.frz (ns.map .int)), some (.int m), some (.lst [.int 0]), none] [0] rfl
    refine ⟨_, δ', d1, call_ok ?_ (by simp) rfl⟩
    rw [F_at (d := d_law_rounds) [some (.frz (ns.map .int)), some (.int m), none, none] rfl rfl rfl]
    simp only [d_law_rounds, m_law_rounds]
    rw [hy] at sl
    have d2' : lcGo (.name 3) (fun _ δ => .ok true δ) (evA' (PF (k + 1)) e1_law_rounds).v [some (.frz (ns.map .int)), some (.int m), some (.lst [.int 0]), none] [.int 0] [] = _ := d2
    have z : eqD (.lst []) (.lst []) = some true := eqD_ints_nil []
    simp [sl, z, d2']
  | cons y yr =>
    obtain ⟨δ', d1, d2⟩ := fin [some (.frz (ns.map .int)), some (.int m), some (.lst ((y :: yr).map .int)), none] (y :: yr) rfl
    refine ⟨_, δ', d1, call_ok ?_ (by simp) rfl⟩
    rw [F_at (d := d_law_rounds) [some (.frz (ns.map .int)), some (.int m), none, none] rfl rfl rfl]
    simp only [d_law_rounds, m_law_rounds]
    rw [hy] at sl hl
    have z := eqD_ints_nil (y :: yr)
    have hlen : ¬ 1000000 < ((y :: yr).map D.int).length := by rw [List.length_map]; omega
    generalize hL : (y :: yr).map D.int = L at *
    simp [sl, z, d2, hlen]
end Mini
namespace Mini
open PySem L2
structure DcW (n : Nat) (δ : Dl) : Prop where
  tri : ∀ k, k < n → ∃ a b c : Int, δ[k]? = some [.int a, .int b, .int c]
theorem Dcs.weak {n : Nat} {δ : Dl} (h : Dcs n δ) : DcW n δ := ⟨fun k hk => h.at_ hk⟩
theorem DcW.len {n : Nat} {δ : Dl} (h : DcW n δ) : n ≤ δ.length := by
  cases n with
  | zero => omega
  | succ n =>
    obtain ⟨a, b, c, e⟩ := h.tri n (by omega)
    have := (List.getElem?_eq_some_iff.mp e).1
    omega
theorem DcW.set {n k : Nat} {δ : Dl} {t : List D} (h : DcW n δ) (ht : Tri t) : DcW n (δ.set k t) := ⟨fun j hj => by
  obtain ⟨a, b, c, e⟩ := h.tri j hj
  by_cases hk : k = j
  · subst hk
    obtain ⟨x, y, z, rfl⟩ := ht
    exact ⟨x, y, z, List.getElem?_set_self (List.getElem?_eq_some_iff.mp e).1⟩
  · exact ⟨a, b, c, by rw [List.getElem?_set_ne hk]; exact e⟩⟩
theorem DcW.app {n : Nat} {δ : Dl} (h : DcW n δ) (ts : Dl) : DcW n (δ ++ ts) := ⟨fun j hj => by
  obtain ⟨a, b, c, e⟩ := h.tri j hj
  exact ⟨a, b, c, by rw [List.getElem?_append_left (List.getElem?_eq_some_iff.mp e).1]; exact e⟩⟩
theorem C_rollW (k : Nat) (hk : 1 ≤ k) {δ : Dl} {n c : Nat} (hd : DcW n δ) (hc : c < n) (m : Int) (h1 : 1 ≤ m) (h2 : m < 2 ^ 60) : ∃ (r : Int) (t : List D), 0 ≤ r ∧ r < m ∧ Tri t ∧ callE (PF k) f_law_roll [.cell c, .int m] δ = .ok (.int r) (δ.set c t) := by
  obtain ⟨k, rfl⟩ : ∃ m, k = m + 1 := ⟨k - 1, by omega⟩
  obtain ⟨a, b, d, e⟩ := hd.tri c hc
  have hz : ¬ m = 0 := by omega
  have fm : ∀ z : Int, z.fmod m = z % m := fun z => fmod_pos z m (by omega)
  have fd : ∀ z : Int, z.fdiv m = z / m := fun z => fdiv_pos z m (by omega)
  have hdv : divOk m = true := divOk_of hz (lt_big (by omega))
  have hd7 : divOk 7 = true := divOk_of (by omega) (lt_big (by decide))
  have m1 : ∀ z, mulOk z 48271 = true := fun z => mulOk_r (by decide)
  have m2 : ∀ z, mulOk z 69621 = true := fun z => mulOk_r (by decide)
  by_cases hb : d = 2 ∨ (d = 1 ∧ 0 < a)
  · refine ⟨a % m, [.int (a / m), .int b, .int d], Int.emod_nonneg _ hz, Int.emod_lt_of_pos _ (by omega), ⟨_, _, _, rfl⟩, call_ok ?_ rfl rfl⟩
    rw [F_at (d := d_law_roll) [some (.cell c), some (.int m), none] rfl rfl rfl]
    simp only [d_law_roll, m_law_roll]
    rcases hb with hb | ⟨hb, ha⟩
    · subst hb
      simp [e, hz, fm, bin_div, hdv, fd, ix3_0]
    · subst hb
      simp [e, hz, fm, bin_div, hdv, fd, ix3_0, ha]
  · have hb2 : ¬ d = 2 := fun z => hb (.inl z)
    have hb3 : d = 1 → ¬ 0 < a := fun z y => hb (.inr ⟨z, y⟩)
    refine ⟨_, [.int ((a * 48271 + b * 69621 + 11).fmod 2147483647), .int (b + 1), .int 0], Int.emod_nonneg (((a * 48271 + b * 69621 + 11).fmod 2147483647).fdiv 7 + (a * 48271 + b * 69621 + 11).fmod 2147483647) hz, Int.emod_lt_of_pos _ (by omega), ⟨_, _, _, rfl⟩, call_ok ?_ rfl rfl⟩
    rw [F_at (d := d_law_roll) [some (.cell c), some (.int m), none] rfl rfl rfl]
    simp only [d_law_roll, m_law_roll]
    by_cases h1 : d = 1
    · have ha := hb3 h1
      subst h1
      simp [e, hz, fm, bin_div, bin_mul, hd7, m1, m2, ix3_0, ix3_1, ix3_2, ha, set_at e, set_set_at]
    · simp [e, hz, fm, bin_div, bin_mul, hd7, m1, m2, ix3_0, ix3_1, ix3_2, h1, hb2, set_at e, set_set_at]
end Mini
namespace Mini
inductive Ex where
  | num (n : Nat) | name (c : Nat) | neg (a : Ex) | pow (a : Ex) (n : Nat) | bin (o : Nat) (a b : Ex)
inductive PR (α : Type) where
  | ok (a : α) (r : List Nat) | er (n : Nat) | bad
def PR.bind {α β : Type} (x : PR α) (f : α → List Nat → PR β) : PR β := match x with
  | .ok a r => f a r
  | .er n => .er n
  | .bad => .bad
def isFig (c : Nat) : Bool := decide (48 ≤ c) && decide (c ≤ 57)
def isLet (c : Nat) : Bool := decide (97 ≤ c) && decide (c ≤ 122)
def pNum : List Nat → PR Nat
  | [] => .er 0
  | c :: t => if isFig c then (match t with
    | [] => .ok (c - 48) []
    | d :: t' => if isFig d then .bad else .ok (c - 48) (d :: t')) else .er (t.length + 1)
def pOneF (S : Nat → List Nat → PR Ex) (deep : Nat) (r : List Nat) : PR Ex := match r with
  | [] => .er 0
  | c :: t => if 20 < deep then .er (t.length + 1) else if c = 40 then (S (deep + 1) t).bind fun w r' => (match r' with
      | [] => .er 0
      | c' :: t' => if c' = 41 then .ok w t' else .er (t'.length + 1))
    else if isLet c then .ok (.name c) t else (pNum (c :: t)).bind fun n r' => .ok (.num n) r'
def pPowL (w : Ex) (r : List Nat) : PR Ex := match r with
  | [] => .ok w []
  | c :: t => if c = 94 then (match pNum t with
    | .ok m r' => if 20 < m then .er t.length else if h : r'.length ≤ t.length then pPowL (.pow w m) r' else .bad
    | .er n => .er n
    | .bad => .bad) else .ok w (c :: t)
termination_by r.length
def pPowF (S : Nat → List Nat → PR Ex) (deep : Nat) (r : List Nat) : PR Ex := (pOneF S deep r).bind pPowL
def pNegF (S N : Nat → List Nat → PR Ex) (deep : Nat) (r : List Nat) : PR Ex := if 20 < deep then .er r.length else match r with
  | [] => pPowF S deep []
  | c :: t => if c = 45 then (N (deep + 1) t).bind fun w r' => .ok (.neg w) r' else pPowF S deep (c :: t)
def pL (p : Nat → Bool) (X : List Nat → PR Ex) (w : Ex) (r : List Nat) : PR Ex := match r with
  | [] => .ok w []
  | c :: t => if p c then (match X t with
    | .ok o r' => if h : r'.length ≤ t.length then pL p X (.bin c w o) r' else .bad
    | .er n => .er n
    | .bad => .bad) else .ok w (c :: t)
termination_by r.length
def isMul (c : Nat) : Bool := decide (c = 42) || decide (c = 47)
def isAdd (c : Nat) : Bool := decide (c = 43) || decide (c = 45)
def pProdF (N : Nat → List Nat → PR Ex) (deep : Nat) (r : List Nat) : PR Ex := (N deep r).bind (pL isMul (N deep))
def pSumF (N : Nat → List Nat → PR Ex) (deep : Nat) (r : List Nat) : PR Ex := (pProdF N deep r).bind (pL isAdd (pProdF N deep))
def pNeg : Nat → Nat → List Nat → PR Ex
  | d + 5 => pNegF (pSumF (pNeg d)) (pNeg (d + 4))
  | _ => fun _ _ => .bad
def pProd (d : Nat) : Nat → List Nat → PR Ex := pProdF (pNeg d)
def pSum (d : Nat) : Nat → List Nat → PR Ex := pSumF (pNeg d)
def pOne : Nat → Nat → List Nat → PR Ex
  | d + 5 => pOneF (pSum d)
  | _ => fun _ _ => .bad
def pPow : Nat → Nat → List Nat → PR Ex
  | d + 5 => pPowF (pSum d)
  | _ => fun _ _ => .bad

def brk (b : Bool) (l : List Nat) : List Nat := if b then 40 :: (l ++ [41]) else l
def tl : Ex → Nat → List Nat
  | .num n, _ => [48 + n]
  | .name c, _ => [c]
  | .neg a, L => brk (decide (2 < L)) (45 :: tl a 2)
  | .pow a n, L => brk (decide (3 < L)) (tl a 4 ++ [94, 48 + n])
  | .bin o a b, L => if isAdd o then brk (decide (0 < L)) (tl a 0 ++ o :: tl b 1) else brk (decide (1 < L)) (tl a 1 ++ o :: tl b 2)
def Ex.ok : Ex → Bool
  | .num n => decide (n ≤ 9)
  | .name c => decide (c = 120)
  | .neg a => a.ok
  | .pow a n => a.ok && decide (n ≤ 9)
  | .bin o a b => (isAdd o || isMul o) && a.ok && b.ok
def ht : Ex → Nat
  | .num _ => 0
  | .name _ => 0
  | .neg a => ht a + 1
  | .pow a _ => ht a + 1
  | .bin _ a b => max (ht a) (ht b) + 1

theorem pL_nil (p : Nat → Bool) (X : List Nat → PR Ex) (w : Ex) : pL p X w [] = .ok w [] := by rw [pL]
theorem pL_stop {p : Nat → Bool} {X : List Nat → PR Ex} {w : Ex} {c : Nat} {t : List Nat} (h : p c = false) : pL p X w (c :: t) = .ok w (c :: t) := by
  rw [pL, h]; rfl
theorem pL_go {p : Nat → Bool} {X : List Nat → PR Ex} {w o : Ex} {c : Nat} {t r : List Nat} (h : p c = true) (hx : X t = .ok o r) (hl : r.length ≤ t.length) : pL p X w (c :: t) = pL p X (.bin c w o) r := by
  rw [pL, if_pos h, hx]
  simp only [hl, dite_true]
theorem pPowL_nil (w : Ex) : pPowL w [] = .ok w [] := by rw [pPowL]
theorem pPowL_stop {w : Ex} {c : Nat} {t : List Nat} (h : c ≠ 94) : pPowL w (c :: t) = .ok w (c :: t) := by
  rw [pPowL, if_neg h]
theorem pPowL_er {w : Ex} {n : Nat} {t : List Nat} (h : pNum t = .er n) : pPowL w (94 :: t) = .er n := by
  rw [pPowL, if_pos rfl, h]
theorem pPowL_go {w : Ex} {m : Nat} {t r : List Nat} (h : pNum t = .ok m r) (hm : m ≤ 20) (hl : r.length ≤ t.length) : pPowL w (94 :: t) = pPowL (.pow w m) r := by
  rw [pPowL, if_pos rfl, h]
  simp only [hl, dite_true]
  rw [if_neg (by omega)]
def nf : List Nat → Bool
  | [] => true
  | c :: _ => !isFig c
def np : List Nat → Bool
  | [] => true
  | c :: _ => decide (c ≠ 94)
def nm : List Nat → Bool
  | [] => true
  | c :: _ => !isMul c
def na : List Nat → Bool
  | [] => true
  | c :: _ => !isAdd c
theorem pNum_fig {n : Nat} {r : List Nat} (h : n ≤ 9) (hr : nf r = true) : pNum ((48 + n) :: r) = .ok n r := by
  have e : isFig (48 + n) = true := by simp [isFig]; omega
  have e2 : 48 + n - 48 = n := by omega
  cases r with
  | nil => simp [pNum, e, e2]
  | cons c t =>
    have hc : isFig c = false := by simpa [nf] using hr
    simp [pNum, e, e2, hc]
theorem pL_out {p : Nat → Bool} {X : List Nat → PR Ex} {w : Ex} {r : List Nat} (h : match r with | [] => True | c :: _ => p c = false) : pL p X w r = .ok w r := by
  cases r with
  | nil => exact pL_nil _ _ _
  | cons c t => exact pL_stop h
theorem pPowL_out {w : Ex} {r : List Nat} (h : np r = true) : pPowL w r = .ok w r := by
  cases r with
  | nil => exact pPowL_nil _
  | cons c t => exact pPowL_stop (by simpa [np] using h)
end Mini
namespace Mini
theorem pOne_s (d : Nat) : pOne (d + 5) = pOneF (pSum d) := rfl
theorem one_brk {d deep : Nat} {l rest : List Nat} {e : Ex} (hd : deep ≤ 20) (h : pSum d (deep + 1) (l ++ 41 :: rest) = .ok e (41 :: rest)) : pOne (d + 5) deep ((40 :: (l ++ [41])) ++ rest) = .ok e rest := by
  rw [pOne_s]
  have e1 : (40 :: (l ++ [41])) ++ rest = 40 :: (l ++ 41 :: rest) := by simp
  rw [e1]
  unfold pOneF
  simp only
  rw [if_neg (by omega), if_pos trivial, h]
  rfl
theorem one_num {d deep n : Nat} {rest : List Nat} (hd : deep ≤ 20) (hn : n ≤ 9) (h : nf rest = true) : pOne (d + 5) deep ((48 + n) :: rest) = .ok (.num n) rest := by
  rw [pOne_s]
  unfold pOneF
  simp only
  have e1 : isLet (48 + n) = false := by simp [isLet]; omega
  rw [if_neg (by omega), if_neg (by omega), e1, if_neg (by decide), pNum_fig hn h]
  rfl
theorem one_name {d deep : Nat} {rest : List Nat} (hd : deep ≤ 20) : pOne (d + 5) deep (120 :: rest) = .ok (.name 120) rest := by
  rw [pOne_s]
  unfold pOneF
  simp only
  rw [if_neg (by omega), if_neg (by omega), if_pos (by decide)]
theorem pow_one {d deep : Nat} {t r : List Nat} {e : Ex} (h : pOne (d + 5) deep t = .ok e r) : pPow (d + 5) deep t = pPowL e r := by
  show (pOne (d + 5) deep t).bind pPowL = _
  rw [h]; rfl
theorem neg_pow {d deep : Nat} {t : List Nat} (hd : deep ≤ 20) (h : match t with | [] => True | c :: _ => c ≠ 45) : pNeg (d + 5) deep t = pPow (d + 5) deep t := by
  show pNegF _ _ deep t = pPowF _ deep t
  unfold pNegF
  rw [if_neg (by omega)]
  cases t with
  | nil => rfl
  | cons c t => simp only; rw [if_neg h]; rfl
theorem neg_neg {d deep : Nat} {t r : List Nat} {e : Ex} (hd : deep ≤ 20) (h : pNeg (d + 4) (deep + 1) t = .ok e r) : pNeg (d + 5) deep (45 :: t) = .ok (.neg e) r := by
  show pNegF _ _ deep _ = _
  unfold pNegF
  rw [if_neg (by omega)]
  simp only [if_true]
  rw [h]
  rfl
theorem prod_neg {d deep : Nat} {t r : List Nat} {e : Ex} (h : pNeg d deep t = .ok e r) : pProd d deep t = pL isMul (pNeg d deep) e r := by
  show (pNeg d deep t).bind _ = _
  rw [h]; rfl
theorem sum_prod {d deep : Nat} {t r : List Nat} {e : Ex} (h : pProd d deep t = .ok e r) : pSum d deep t = pL isAdd (pProd d deep) e r := by
  show (pProd d deep t).bind _ = _
  rw [h]; rfl
theorem out_mul {X : List Nat → PR Ex} {w : Ex} {r : List Nat} (h : nm r = true) : pL isMul X w r = .ok w r := pL_out (by
  cases r with
  | nil => trivial
  | cons c t => simpa [nm] using h)
theorem out_add {X : List Nat → PR Ex} {w : Ex} {r : List Nat} (h : na r = true) : pL isAdd X w r = .ok w r := pL_out (by
  cases r with
  | nil => trivial
  | cons c t => simpa [na] using h)
structure Rds (e : Ex) (d deep : Nat) : Prop where
  r4 : ∀ rest, nf rest = true → pOne d deep (tl e 4 ++ rest) = .ok e rest
  r2 : ∀ rest, nf rest = true → np rest = true → pNeg d deep (tl e 2 ++ rest) = .ok e rest
  r1 : ∀ rest, nf rest = true → np rest = true → pProd d deep (tl e 1 ++ rest) = pL isMul (pNeg d deep) e rest
  r0 : ∀ rest, nf rest = true → np rest = true → nm rest = true → pSum d deep (tl e 0 ++ rest) = pL isAdd (pProd d deep) e rest
theorem hd4 : ∀ (e : Ex), e.ok = true → ∀ rest, ∃ c t, tl e 4 ++ rest = c :: t ∧ c ≠ 45
  | .num n, _, rest => ⟨48 + n, rest, rfl, by omega⟩
  | .name c, h, rest => ⟨c, rest, rfl, by have : c = 120 := by simpa [Ex.ok] using h
                                          omega⟩
  | .neg a, _, rest => ⟨40, _, rfl, by omega⟩
  | .pow a n, _, rest => ⟨40, _, rfl, by omega⟩
  | .bin o a b, _, rest => by
    cases h : isAdd o
    · exact ⟨40, _, by simp [tl, h, brk]; rfl, by omega⟩
    · exact ⟨40, _, by simp [tl, h, brk]; rfl, by omega⟩
theorem Rds.of4 {e : Ex} {d deep : Nat} (he : e.ok = true) (hd : deep ≤ 20) (h2 : tl e 2 = tl e 4) (h1 : tl e 1 = tl e 4) (h0 : tl e 0 = tl e 4) (h : ∀ rest, nf rest = true → pOne (d + 5) deep (tl e 4 ++ rest) = .ok e rest) : Rds e (d + 5) deep := by
  have q2 : ∀ rest, nf rest = true → np rest = true → pNeg (d + 5) deep (tl e 4 ++ rest) = .ok e rest := fun rest g1 g2 => by
    obtain ⟨c, t, e1, e2⟩ := hd4 e he rest
    rw [neg_pow hd (by rw [e1]; exact e2), pow_one (h rest g1), pPowL_out g2]
  refine ⟨h, fun rest g1 g2 => ?_, fun rest g1 g2 => ?_, fun rest g1 g2 g3 => ?_⟩
  · rw [h2]; exact q2 rest g1 g2
  · rw [h1]; exact prod_neg (q2 rest g1 g2)
  · rw [h0]
    have := prod_neg (q2 rest g1 g2)
    rw [out_mul g3] at this
    exact sum_prod this
theorem reads : ∀ (e : Ex), e.ok = true → ∀ d deep, 6 * ht e + 5 ≤ d → deep + 2 * ht e ≤ 20 → Rds e d deep
  | .num n, h, d, deep, h1, h2 => by
    obtain ⟨d, rfl⟩ : ∃ m, d = m + 5 := ⟨d - 5, by omega⟩
    exact Rds.of4 h (by omega) rfl rfl rfl fun rest g => one_num (by omega) (by simpa [Ex.ok] using h) g
  | .name c, h, d, deep, h1, h2 => by
    obtain ⟨d, rfl⟩ : ∃ m, d = m + 5 := ⟨d - 5, by omega⟩
    have : c = 120 := by simpa [Ex.ok] using h
    subst this
    exact Rds.of4 h (by omega) rfl rfl rfl fun rest g => one_name (by omega)
  | .neg a, h, d, deep, h1, h2 => by
    have ha : a.ok = true := h
    have hh : ht (.neg a) = ht a + 1 := rfl
    rw [hh] at h1 h2
    -- the part itself
    have c2 : ∀ d deep, 6 * ht a + 6 ≤ d → deep + 2 * ht a + 1 ≤ 20 → ∀ rest, nf rest = true → np rest = true → pNeg d deep ((45 :: tl a 2) ++ rest) = .ok (.neg a) rest := fun d deep q1 q2 rest g1 g2 => by
      obtain ⟨d, rfl⟩ : ∃ m, d = m + 5 := ⟨d - 5, by omega⟩
      exact neg_neg (by omega) ((reads a ha (d + 4) (deep + 1) (by omega) (by omega)).r2 rest g1 g2)
    have c0 : ∀ d deep, 6 * ht a + 6 ≤ d → deep + 2 * ht a + 1 ≤ 20 → ∀ rest, nf rest = true → np rest = true → nm rest = true → pSum d deep ((45 :: tl a 2) ++ rest) = pL isAdd (pProd d deep) (.neg a) rest := fun d deep q1 q2 rest g1 g2 g3 => by
      have := prod_neg (c2 d deep q1 q2 rest g1 g2)
      rw [out_mul g3] at this
      exact sum_prod this
    refine ⟨fun rest g1 => ?_, c2 d deep (by omega) (by omega), fun rest g1 g2 => prod_neg (c2 d deep (by omega) (by omega) rest g1 g2), c0 d deep (by omega) (by omega)⟩
    obtain ⟨d, rfl⟩ : ∃ m, d = m + 5 := ⟨d - 5, by omega⟩
    refine one_brk (by omega) ?_
    rw [c0 d (deep + 1) (by omega) (by omega) (41 :: rest) rfl rfl rfl, out_add rfl]
  | .pow a n, h, d, deep, h1, h2 => by
    have h' : (a.ok && decide (n ≤ 9)) = true := h
    rw [Bool.and_eq_true, decide_eq_true_eq] at h'
    obtain ⟨ha, hn⟩ := h'
    have hh : ht (.pow a n) = ht a + 1 := rfl
    rw [hh] at h1 h2
    have c2 : ∀ d deep, 6 * ht a + 5 ≤ d → deep + 2 * ht a ≤ 20 → ∀ rest, nf rest = true → np rest = true → pNeg d deep ((tl a 4 ++ [94, 48 + n]) ++ rest) = .ok (.pow a n) rest := fun d deep q1 q2 rest g1 g2 => by
      obtain ⟨d, rfl⟩ : ∃ m, d = m + 5 := ⟨d - 5, by omega⟩
      obtain ⟨c, t, e1, e2⟩ := hd4 a ha ([94, 48 + n] ++ rest)
      rw [List.append_assoc, neg_pow (by omega) (by rw [e1]; exact e2), pow_one ((reads a ha (d + 5) deep (by omega) (by omega)).r4 ([94, 48 + n] ++ rest) rfl)]
      show pPowL a (94 :: ((48 + n) :: rest)) = _
      rw [pPowL_go (pNum_fig hn g1) (by omega) (by simp), pPowL_out g2]
    have c0 : ∀ d deep, 6 * ht a + 5 ≤ d → deep + 2 * ht a ≤ 20 → ∀ rest, nf rest = true → np rest = true → nm rest = true → pSum d deep ((tl a 4 ++ [94, 48 + n]) ++ rest) = pL isAdd (pProd d deep) (.pow a n) rest := fun d deep q1 q2 rest g1 g2 g3 => by
      have := prod_neg (c2 d deep q1 q2 rest g1 g2)
      rw [out_mul g3] at this
      exact sum_prod this
    refine ⟨fun rest g1 => ?_, c2 d deep (by omega) (by omega), fun rest g1 g2 => prod_neg (c2 d deep (by omega) (by omega) rest g1 g2), c0 d deep (by omega) (by omega)⟩
    obtain ⟨d, rfl⟩ : ∃ m, d = m + 5 := ⟨d - 5, by omega⟩
    refine one_brk (by omega) ?_
    rw [c0 d (deep + 1) (by omega) (by omega) (41 :: rest) rfl rfl rfl, out_add rfl]
  | .bin o a b, h, d, deep, h1, h2 => by
    have h' : ((isAdd o || isMul o) && a.ok && b.ok) = true := h
    rw [Bool.and_eq_true, Bool.and_eq_true, Bool.or_eq_true] at h'
    obtain ⟨⟨ho, ha⟩, hb⟩ := h'
    have hh : ht (.bin o a b) = max (ht a) (ht b) + 1 := rfl
    rw [hh] at h1 h2
    have m1 : ht a ≤ max (ht a) (ht b) := Nat.le_max_left ..
    have m2 : ht b ≤ max (ht a) (ht b) := Nat.le_max_right ..
    cases hA : isAdd o with
    | true =>
      have f1 : nf (o :: tl b 1) = true := by
        simp [isAdd] at hA
        rcases hA with rfl | rfl <;> rfl
      have f2 : o ≠ 94 ∧ isMul o = false ∧ isFig o = false := by
        simp [isAdd] at hA
        rcases hA with rfl | rfl <;> decide
      have c0 : ∀ d deep, 6 * max (ht a) (ht b) + 5 ≤ d → deep + 2 * max (ht a) (ht b) ≤ 20 → ∀ rest, nf rest = true → np rest = true → nm rest = true → pSum d deep ((tl a 0 ++ o :: tl b 1) ++ rest) = pL isAdd (pProd d deep) (.bin o a b) rest := fun d deep q1 q2 rest g1 g2 g3 => by
        have e1 : (tl a 0 ++ o :: tl b 1) ++ rest = tl a 0 ++ (o :: (tl b 1 ++ rest)) := by simp
        rw [e1, (reads a ha d deep (by omega) (by omega)).r0 (o :: (tl b 1 ++ rest)) (by simp [nf, f2]) (by simp [np, f2]) (by simp [nm, f2])]
        have q := (reads b hb d deep (by omega) (by omega)).r1 rest g1 g2
        rw [out_mul g3] at q
        exact pL_go hA q (by simp)
      have r4 : ∀ rest, nf rest = true → pOne d deep ((40 :: ((tl a 0 ++ o :: tl b 1) ++ [41])) ++ rest) = .ok (.bin o a b) rest := fun rest g1 => by
        obtain ⟨d, rfl⟩ : ∃ m, d = m + 5 := ⟨d - 5, by omega⟩
        refine one_brk (by omega) ?_
        rw [c0 d (deep + 1) (by omega) (by omega) (41 :: rest) rfl rfl rfl, out_add rfl]
      have t4 : ∀ L, 0 < L → tl (.bin o a b) L = 40 :: ((tl a 0 ++ o :: tl b 1) ++ [41]) := fun L hL => by simp [tl, hA, brk, hL]
      have t0 : tl (.bin o a b) 0 = tl a 0 ++ o :: tl b 1 := by simp [tl, hA, brk]
      have q2 : ∀ rest, nf rest = true → np rest = true → pNeg d deep (tl (.bin o a b) 4 ++ rest) = .ok (.bin o a b) rest := fun rest g1 g2 => by
        obtain ⟨d, rfl⟩ : ∃ m, d = m + 5 := ⟨d - 5, by omega⟩
        obtain ⟨c, t, e1, e2⟩ := hd4 (.bin o a b) h rest
        rw [neg_pow (by omega) (by rw [e1]; exact e2), t4 4 (by omega), pow_one (r4 rest g1), pPowL_out g2]
      refine ⟨fun rest g1 => ?_, fun rest g1 g2 => ?_, fun rest g1 g2 => ?_, fun rest g1 g2 g3 => ?_⟩
      · rw [t4 4 (by omega)]; exact r4 rest g1
      · have := q2 rest g1 g2
        rw [t4 4 (by omega)] at this
        rw [t4 2 (by omega)]; exact this
      · have := q2 rest g1 g2
        rw [t4 4 (by omega)] at this
        rw [t4 1 (by omega)]; exact prod_neg this
      · rw [t0]; exact c0 d deep (by omega) (by omega) rest g1 g2 g3
    | false =>
      have hM : isMul o = true := by
        rcases ho with z | z
        · rw [hA] at z; cases z
        · exact z
      have f2 : o ≠ 94 ∧ isFig o = false := by
        simp [isMul] at hM
        rcases hM with rfl | rfl <;> decide
      have c1 : ∀ d deep, 6 * max (ht a) (ht b) + 5 ≤ d → deep + 2 * max (ht a) (ht b) ≤ 20 → ∀ rest, nf rest = true → np rest = true → pProd d deep ((tl a 1 ++ o :: tl b 2) ++ rest) = pL isMul (pNeg d deep) (.bin o a b) rest := fun d deep q1 q2 rest g1 g2 => by
        have e1 : (tl a 1 ++ o :: tl b 2) ++ rest = tl a 1 ++ (o :: (tl b 2 ++ rest)) := by simp
        rw [e1, (reads a ha d deep (by omega) (by omega)).r1 (o :: (tl b 2 ++ rest)) (by simp [nf, f2]) (by simp [np, f2])]
        exact pL_go hM ((reads b hb d deep (by omega) (by omega)).r2 rest g1 g2) (by simp)
      have c0 : ∀ d deep, 6 * max (ht a) (ht b) + 5 ≤ d → deep + 2 * max (ht a) (ht b) ≤ 20 → ∀ rest, nf rest = true → np rest = true → nm rest = true → pSum d deep ((tl a 1 ++ o :: tl b 2) ++ rest) = pL isAdd (pProd d deep) (.bin o a b) rest := fun d deep q1 q2 rest g1 g2 g3 => by
        have := c1 d deep q1 q2 rest g1 g2
        rw [out_mul g3] at this
        exact sum_prod this
      have r4 : ∀ rest, nf rest = true → pOne d deep ((40 :: ((tl a 1 ++ o :: tl b 2) ++ [41])) ++ rest) = .ok (.bin o a b) rest := fun rest g1 => by
        obtain ⟨d, rfl⟩ : ∃ m, d = m + 5 := ⟨d - 5, by omega⟩
        refine one_brk (by omega) ?_
        rw [c0 d (deep + 1) (by omega) (by omega) (41 :: rest) rfl rfl rfl, out_add rfl]
      have t4 : ∀ L, 1 < L → tl (.bin o a b) L = 40 :: ((tl a 1 ++ o :: tl b 2) ++ [41]) := fun L hL => by simp [tl, hA, brk, hL]
      have t1 : ∀ L, ¬ 1 < L → tl (.bin o a b) L = tl a 1 ++ o :: tl b 2 := fun L hL => by simp [tl, hA, brk, hL]
      refine ⟨fun rest g1 => ?_, fun rest g1 g2 => ?_, fun rest g1 g2 => ?_, fun rest g1 g2 g3 => ?_⟩
      · rw [t4 4 (by omega)]; exact r4 rest g1
      · obtain ⟨d, rfl⟩ : ∃ m, d = m + 5 := ⟨d - 5, by omega⟩
        obtain ⟨c, t, e1, e2⟩ := hd4 (.bin o a b) h rest
        rw [t4 2 (by omega), ← t4 4 (by omega), neg_pow (by omega) (by rw [e1]; exact e2), t4 4 (by omega), pow_one (r4 rest g1), pPowL_out g2]
      · rw [t1 1 (by omega)]; exact c1 d deep (by omega) (by omega) rest g1 g2
      · rw [t1 0 (by omega)]; exact c0 d deep (by omega) (by omega) rest g1 g2 g3
end Mini
namespace Mini
def EndsAt (s : List Nat) (x : PR Ex) : Prop := x = .er (s.length + 1) ∨ ∃ w, x = .ok w (36 :: s)
structure Cut (e : Ex) (d deep : Nat) : Prop where
  k4 : ∀ j s, j < (tl e 4).length → EndsAt s (pOne d deep ((tl e 4).take j ++ 36 :: s))
  k2 : ∀ j s, j < (tl e 2).length → EndsAt s (pNeg d deep ((tl e 2).take j ++ 36 :: s))
  k1 : ∀ j s, j < (tl e 1).length → EndsAt s (pProd d deep ((tl e 1).take j ++ 36 :: s))
  k0 : ∀ j s, j < (tl e 0).length → EndsAt s (pSum d deep ((tl e 0).take j ++ 36 :: s))
theorem hdc {e : Ex} (he : e.ok = true) (j : Nat) (s : List Nat) : match (tl e 4).take j ++ 36 :: s with | [] => True | c :: _ => c ≠ 45 := by
  obtain ⟨c, t, e1, e2⟩ := hd4 e he []
  rw [List.append_nil] at e1
  rw [e1]
  cases j with
  | zero => exact (by decide : (36 : Nat) ≠ 45)
  | succ j => exact e2
end Mini
namespace Mini
theorem er_prod {d deep n : Nat} {t : List Nat} (h : pNeg d deep t = .er n) : pProd d deep t = .er n := by
  show (pNeg d deep t).bind _ = _
  rw [h]; rfl
theorem er_sum {d deep n : Nat} {t : List Nat} (h : pProd d deep t = .er n) : pSum d deep t = .er n := by
  show (pProd d deep t).bind _ = _
  rw [h]; rfl
structure Hat (e : Ex) (d deep : Nat) : Prop where
  h2 : pNeg d deep (tl e 2 ++ [94]) = .er 0
  h1 : pProd d deep (tl e 1 ++ [94]) = .er 0
  h0 : pSum d deep (tl e 0 ++ [94]) = .er 0
theorem hat_neg {e : Ex} {d deep : Nat} (he : e.ok = true) (hd : deep ≤ 20) (h : pOne (d + 5) deep (tl e 4 ++ [94]) = .ok e [94]) : pNeg (d + 5) deep (tl e 4 ++ [94]) = .er 0 := by
  obtain ⟨c, t, e1, e2⟩ := hd4 e he [94]
  rw [neg_pow hd (by rw [e1]; exact e2), pow_one h, pPowL_er rfl]
theorem Hat.of4 {e : Ex} {d deep : Nat} (he : e.ok = true) (hd : deep ≤ 20) (h2 : tl e 2 = tl e 4) (h1 : tl e 1 = tl e 4) (h0 : tl e 0 = tl e 4) (h : pOne (d + 5) deep (tl e 4 ++ [94]) = .ok e [94]) : Hat e (d + 5) deep := by
  have q := hat_neg he hd h
  exact ⟨by rw [h2]; exact q, by rw [h1]; exact er_prod q, by rw [h0]; exact er_sum (er_prod q)⟩
section
variable {e : Ex} (he : e.ok = true) (hh : ht e ≤ 4)
include he hh
end
end Mini
namespace Mini
open PySem L2
def st (l : List Nat) : Str := ⟨l.toArray⟩
theorem st_len (l : List Nat) : (st l).length = l.length := by simp [st, Str.length]
theorem st_app (a b : List Nat) : st a ++ st b = st (a ++ b) := by
  show Str.append _ _ = _
  simp [st, Str.append]
theorem s_of {s : String} {l : List Nat} (h : (Str.ofString s).cps.toList = l) : Str.ofString s = st l := by
  have : Str.ofString s = ⟨(Str.ofString s).cps.toList.toArray⟩ := by simp
  rw [this, h]; rfl
theorem s_dol : Str.ofString "$" = st [36] := s_of (by decide +kernel)
theorem add_st {a b : List Nat} (h : a.length + b.length ≤ 1000) : binD .Add (.str (st a)) (.str (st b)) = some (.str (st (a ++ b))) := by
  rw [str_add, if_pos (by rw [st_len, st_len]; unfold line; omega), st_app]
def enc : Ex → D
  | .num n => .tup [.str "number", .int n]
  | .name c => .tup [.str "name", .str (st [c])]
  | .neg a => .tup [.str "neg", enc a]
  | .pow a n => .tup [.str "^", enc a, .int n]
  | .bin o a b => .tup [.str (st [o]), enc a, enc b]
structure Txt38 (l : List Nat) : Prop where
  len : l.length ≤ 640
  cs : ∀ c, c ∈ l → c < 128
theorem Txt38.at_ {l : List Nat} (h : Txt38 l) {k c : Nat} (e : l[k]? = some c) : c < 0x110000 := Nat.lt_trans (h.cs c (List.mem_of_getElem? e)) (by omega)
end Mini
namespace Mini
open PySem L2
end Mini
namespace Mini
open PySem L2
end Mini
namespace Mini
open PySem L2
def whole (l : List Nat) : PR Ex → PR Ex
  | .ok w [] => .ok w []
  | .ok w (c :: t) => .er (t.length + 1)
  | x => x
end Mini
namespace Mini
open PySem L2
theorem isi_ii (δ : Dl) (i : Int) : bltD δ .isi [.int i, .ty "int"] = some (.bl true) := by
  show (some (D.bl true)) = _
  rfl
theorem isi_ib (δ : Dl) (i : Int) : bltD δ .isi [.int i, .ty "bool"] = some (.bl false) := by
  show (some (D.bl false)) = _
  rfl
theorem isi_itu (δ : Dl) (i : Int) : bltD δ .isi [.int i, .ty "tuple"] = some (.bl false) := by
  show (some (D.bl false)) = _
  rfl
theorem isi_ttu (δ : Dl) (ts : List D) : bltD δ .isi [.tup ts, .ty "tuple"] = some (.bl true) := by
  show (some (D.bl true)) = _
  rfl
theorem inX_bn : ("BadNumber" : Str) ∈ errX := by decide +kernel
theorem inX_bf : ("BadForm" : Str) ∈ errX := by decide +kernel
theorem inX_bp : ("BadPaper" : Str) ∈ errX := by decide +kernel
theorem inX_nw : ("NoWay" : Str) ∈ errX := by decide +kernel
theorem inX_tl : ("TooLarge" : Str) ∈ errX := by decide +kernel
theorem inX_bd : ("BadDeed" : Str) ∈ errX := by decide +kernel
theorem C_cwBad (k : Nat) (δ : Dl) {m : Int} (hm : 0 < m) : callE (PF (k + 1)) f_check_whole [.int (0 - m), .int 0] δ = .ex "BadNumber" [] δ := by
  refine call_ex ?_ rfl
  rw [F_at (d := d_check_whole) [some (.int (0 - m)), some (.int 0)] rfl rfl rfl]
  simp only [d_check_whole, m_check_whole]
  have h : (0 - m) < 0 := by omega
  generalize 0 - m = z at *
  simp [isi_ii, isi_ib, h, inX_bn]
theorem C_cwOk (k : Nat) (δ : Dl) {m : Int} (hm : 0 ≤ m) : callE (PF (k + 1)) f_check_whole [.int m, .int 0] δ = .ok .non δ := by
  refine call_ok ?_ rfl rfl
  rw [F_at (d := d_check_whole) [some (.int m), some (.int 0)] rfl rfl rfl]
  simp only [d_check_whole, m_check_whole]
  have h : ¬ m < 0 := by omega
  simp [isi_ii, isi_ib, h]
theorem C_isxInt (k : Nat) (δ : Dl) (m : Int) : callE (PF (k + 1)) f_is_expression [.int m] δ = .ok (.bl false) δ := by
  refine call_ok ?_ rfl rfl
  rw [F_at (d := d_is_expression) [some (.int m), none] rfl rfl rfl]
  simp only [d_is_expression, m_is_expression]
  simp [isi_itu]
theorem C_cxInt (k : Nat) (δ : Dl) (m : Int) : callE (PF (k + 2)) f_check_expression [.int m] δ = .ex "BadForm" [] δ := by
  refine call_ex ?_ rfl
  rw [F_at (d := d_check_expression) [some (.int m)] rfl rfl rfl]
  simp only [d_check_expression, m_check_expression]
  simp [C_isxInt, inX_bf]
theorem C_made0 (k : Nat) (δ : Dl) (m : Int) : callE (PF (k + 1)) f_made_fractions [.int m, .int 0] δ = .ex "NoWay" [] δ := by
  refine call_ex ?_ rfl
  rw [F_at (d := d_made_fractions) [some (.int m), some (.int 0), none] rfl rfl rfl]
  simp only [d_made_fractions, m_made_fractions]
  simp [inX_nw]
theorem gMost : Gc g_MOST = .int 1000000000000 := rfl
theorem C_primeL (k : Nat) (δ : Dl) {m : Int} (hm : 0 < m) : callE (PF (k + 2)) f_is_prime [.int (1000000000000 + m)] δ = .ex "TooLarge" [] δ := by
  refine call_ex ?_ rfl
  rw [F_at (d := d_is_prime) [some (.int (1000000000000 + m)), none] rfl rfl rfl]
  simp only [d_is_prime, m_is_prime]
  have C := C_cwOk k δ (m := 1000000000000 + m) (by omega)
  have h : (1000000000000 : Int) < 1000000000000 + m := by omega
  generalize 1000000000000 + m = z at *
  have e : (PF (k + 1)).G g_MOST = .int 1000000000000 := gMost
  simp [C, e, h, inX_tl]
theorem i0_ : ixN 1 0 = some 0 := rfl
theorem C_paperBad (k : Nat) (δ : Dl) {m : Int} (hm : 0 < m) : ∃ p δ', callE (PF (k + 3)) f_look_paper [.tup [.int (4 * m), .int 3, .tup []]] δ = .ex "BadPaper" p (δ ++ δ') := by
  have hz : 2 ≤ 4 * m := by omega
  have h1 : ¬ 4 * m < 2 := by omega
  have h2 : ¬ 4 * m = 2 := by omega
  have h3 : ¬ 4 * m - 1 = 1 := by omega
  generalize 4 * m = z at *
  have key : callE (PF (k + 2)) f_look_part [.tup [.int z, .int 3, .tup []], .cell δ.length] (δ ++ [[.int 0]]) = .ex "BadPaper" [.int 0] (δ ++ [[.int 1]]) := by
    refine call_ex ?_ rfl
    rw [F_at (d := d_look_part) [some (.tup [.int z, .int 3, .tup []]), some (.cell δ.length), none, none, none, none, none, none] rfl rfl rfl]
    simp only [d_look_part, m_look_part, t1_look_part]
    simp [isi_ii, isi_ttu, h1, h2, h3, inX_bp, i0_]
  refine ⟨[.int 0], [[.int 1]], call_ex ?_ rfl⟩
  have i0 : insOf [D.int 0] = none := rfl
  rw [F_at (d := d_look_paper) [some (.tup [.int z, .int 3, .tup []])] rfl rfl rfl]
  have h' : callE (progF errX Gc fuel defs (k + 2)) f_look_part [.tup [.int z, .int 3, .tup []], .cell δ.length] (δ ++ [[.int 0]]) = _ := key
  simp [d_look_paper, m_look_paper, isFresh, i0, h']
def dgs (n : Nat) : List Nat := if n < 10 then [48 + n] else if n < 100 then [48 + n / 10, 48 + n % 10] else [48 + n / 100, 48 + n / 10 % 10, 48 + n % 10]
def lsB : List Nat → List Nat → Bool
  | [], [] => true
  | a :: as, b :: bs => Nat.beq a b && lsB as bs
  | _, _ => false
theorem lsB_ok : ∀ {a b : List Nat}, lsB a b = true → a = b
  | [], [], _ => rfl
  | a :: as, b :: bs, h => by
    unfold lsB at h
    rw [Bool.and_eq_true] at h
    rw [Nat.eq_of_beq_eq_true h.1, lsB_ok h.2]
  | [], _ :: _, h => by cases h
  | _ :: _, [], h => by cases h
def rdL (n : Nat) (δ : Dl) : R D := callE (PF 50) f_read [.str (st (dgs n ++ [36]))] δ
def rdR (n : Nat) (δ : Dl) : R D := .ex "BadText" [.int ((dgs n).length : Nat)] δ
def ck45 (n : Nat) : Bool := lsB (Str.ofString (toString (n : Int))).cps.toList (dgs n)
theorem tabA : ((List.range' 1 900).all ck45) = true := by decide +kernel
theorem tabB0 : (List.range' 1 50).map rdL = (List.range' 1 50).map rdR := by kernel_rfl
theorem tabB1 : (List.range' 51 50).map rdL = (List.range' 51 50).map rdR := by kernel_rfl
theorem tabB2 : (List.range' 101 50).map rdL = (List.range' 101 50).map rdR := by kernel_rfl
theorem tabB3 : (List.range' 151 50).map rdL = (List.range' 151 50).map rdR := by kernel_rfl
theorem tabB4 : (List.range' 201 50).map rdL = (List.range' 201 50).map rdR := by kernel_rfl
theorem tabB5 : (List.range' 251 50).map rdL = (List.range' 251 50).map rdR := by kernel_rfl
theorem tabB6 : (List.range' 301 50).map rdL = (List.range' 301 50).map rdR := by kernel_rfl
theorem tabB7 : (List.range' 351 50).map rdL = (List.range' 351 50).map rdR := by kernel_rfl
theorem tabB8 : (List.range' 401 50).map rdL = (List.range' 401 50).map rdR := by kernel_rfl
theorem tabB9 : (List.range' 451 50).map rdL = (List.range' 451 50).map rdR := by kernel_rfl
theorem tabB10 : (List.range' 501 50).map rdL = (List.range' 501 50).map rdR := by kernel_rfl
theorem tabB11 : (List.range' 551 50).map rdL = (List.range' 551 50).map rdR := by kernel_rfl
theorem tabB12 : (List.range' 601 50).map rdL = (List.range' 601 50).map rdR := by kernel_rfl
theorem tabB13 : (List.range' 651 50).map rdL = (List.range' 651 50).map rdR := by kernel_rfl
theorem tabB14 : (List.range' 701 50).map rdL = (List.range' 701 50).map rdR := by kernel_rfl
theorem tabB15 : (List.range' 751 50).map rdL = (List.range' 751 50).map rdR := by kernel_rfl
theorem tabB16 : (List.range' 801 50).map rdL = (List.range' 801 50).map rdR := by kernel_rfl
theorem tabB17 : (List.range' 851 50).map rdL = (List.range' 851 50).map rdR := by kernel_rfl
theorem tabB {n : Nat} (h1 : 1 ≤ n) (h2 : n ≤ 900) : rdL n = rdR n := by
  by_cases a0 : n ≤ 50
  · exact List.map_inj_left.mp tabB0 n (List.mem_range'_1.mpr (by omega))
  by_cases a1 : n ≤ 100
  · exact List.map_inj_left.mp tabB1 n (List.mem_range'_1.mpr (by omega))
  by_cases a2 : n ≤ 150
  · exact List.map_inj_left.mp tabB2 n (List.mem_range'_1.mpr (by omega))
  by_cases a3 : n ≤ 200
  · exact List.map_inj_left.mp tabB3 n (List.mem_range'_1.mpr (by omega))
  by_cases a4 : n ≤ 250
  · exact List.map_inj_left.mp tabB4 n (List.mem_range'_1.mpr (by omega))
  by_cases a5 : n ≤ 300
  · exact List.map_inj_left.mp tabB5 n (List.mem_range'_1.mpr (by omega))
  by_cases a6 : n ≤ 350
  · exact List.map_inj_left.mp tabB6 n (List.mem_range'_1.mpr (by omega))
  by_cases a7 : n ≤ 400
  · exact List.map_inj_left.mp tabB7 n (List.mem_range'_1.mpr (by omega))
  by_cases a8 : n ≤ 450
  · exact List.map_inj_left.mp tabB8 n (List.mem_range'_1.mpr (by omega))
  by_cases a9 : n ≤ 500
  · exact List.map_inj_left.mp tabB9 n (List.mem_range'_1.mpr (by omega))
  by_cases a10 : n ≤ 550
  · exact List.map_inj_left.mp tabB10 n (List.mem_range'_1.mpr (by omega))
  by_cases a11 : n ≤ 600
  · exact List.map_inj_left.mp tabB11 n (List.mem_range'_1.mpr (by omega))
  by_cases a12 : n ≤ 650
  · exact List.map_inj_left.mp tabB12 n (List.mem_range'_1.mpr (by omega))
  by_cases a13 : n ≤ 700
  · exact List.map_inj_left.mp tabB13 n (List.mem_range'_1.mpr (by omega))
  by_cases a14 : n ≤ 750
  · exact List.map_inj_left.mp tabB14 n (List.mem_range'_1.mpr (by omega))
  by_cases a15 : n ≤ 800
  · exact List.map_inj_left.mp tabB15 n (List.mem_range'_1.mpr (by omega))
  by_cases a16 : n ≤ 850
  · exact List.map_inj_left.mp tabB16 n (List.mem_range'_1.mpr (by omega))
  exact List.map_inj_left.mp tabB17 n (List.mem_range'_1.mpr (by omega))
theorem dgs_len (n : Nat) : (dgs n).length ≤ 3 := by
  unfold dgs
  split
  · simp
  · split <;> simp
theorem C_str45 (δ : Dl) {n : Nat} (h1 : 1 ≤ n) (h2 : n ≤ 900) : bltD δ .str [.int (n : Nat)] = some (.str (st (dgs n))) := by
  have c := List.all_eq_true.mp tabA n (List.mem_range'_1.mpr (by omega))
  have e : bltD δ .str [.int (n : Nat)] = if decide (((n : Nat) : Int).natAbs < 2 ^ 1000) then some (.str (toString ((n : Nat) : Int))) else none := rfl
  rw [e, if_pos (by
    rw [decide_eq_true_eq]
    have : 2 ^ 10 ≤ 2 ^ 1000 := Nat.pow_le_pow_right (by omega) (by omega)
    omega)]
  exact congrArg (fun z => some (D.str z)) (s_of (lsB_ok c))
theorem C_read45 (δ : Dl) {n : Nat} (h1 : 1 ≤ n) (h2 : n ≤ 900) : callE (PF 50) f_read [.str (st (dgs n ++ [36]))] δ = .ex "BadText" [.int ((dgs n).length : Nat)] δ := congrFun (tabB h1 h2) δ
def dk : List D := [.ty "Desk", .str "rows", .tup [], .str "deeds", .lst [], .str "undone", .lst []]
theorem C_desk (k : Nat) (δ : Dl) : callE (PF (k + 1)) f_Desk__init [.cell δ.length] (δ ++ [[.ty "Desk"]]) = .ok .non (δ ++ [dk]) := by
  have e1 : ∀ r : List D, insD (δ ++ [.ty "Desk" :: r]) "Desk" (.cell δ.length) = some (δ.length, r) := fun r => by
    show ((δ ++ [.ty "Desk" :: r])[δ.length]?).bind _ = _
    rw [List.getElem?_append_right (Nat.le_refl _), Nat.sub_self]
    rfl
  have e2 : ∀ x y : List D, (δ ++ [x]).set δ.length y = δ ++ [y] := fun x y => by
    rw [List.set_append_right _ _ (Nat.le_refl _), Nat.sub_self]
    rfl
  have f1 : setF "rows" (.tup []) [] = [.str "rows", .tup []] := by kernel_rfl
  have f2 : setF "deeds" (.lst []) [.str "rows", .tup []] = [.str "rows", .tup [], .str "deeds", .lst []] := by kernel_rfl
  have f3 : setF "undone" (.lst []) [.str "rows", .tup [], .str "deeds", .lst []] = [.str "rows", .tup [], .str "deeds", .lst [], .str "undone", .lst []] := by kernel_rfl
  refine call_ok ?_ rfl rfl
  rw [F_at (d := d_Desk__init) [some (.cell δ.length)] rfl rfl rfl]
  simp only [d_Desk__init, m_Desk__init]
  simp [e1, e2, f1, f2, f3, dk]
theorem C_held (k : Nat) (δ : Dl) (c : Nat) (s : Str) (hd : δ[c]? = some dk) : callE (PF (k + 1)) f_Desk_held [.cell c, .str s] δ = .ex "BadDeed" [] δ := by
  have e1 : insD δ "Desk" (.cell c) = some (c, dk.tail) := by
    show (δ[c]?).bind _ = _
    rw [hd]
    rfl
  have f1 : getF dk.tail "rows" = some (.tup []) := by kernel_rfl
  refine call_ex ?_ rfl
  rw [F_at (d := d_Desk_held) [some (.cell c), some (.str s), none, none] rfl rfl rfl]
  simp only [d_Desk_held, m_Desk_held]
  simp [e1, f1, inX_bd]
theorem C_slope (k : Nat) (δ : Dl) (c : Nat) (s : Str) (hd : δ[c]? = some dk) : callE (PF (k + 2)) f_Desk_slope [.cell c, .str s] δ = .ex "BadDeed" [] δ := by
  have e1 : insD δ "Desk" (.cell c) = some (c, dk.tail) := by
    show (δ[c]?).bind _ = _
    rw [hd]
    rfl
  have f1 : getF dk.tail "held" = none := by kernel_rfl
  have C := C_held k δ c s hd
  have C : callE (PF (k + 1)) f_Desk_held [.cell c, .str s] δ = .ex "BadDeed" [] δ := C
  refine call_ex ?_ rfl
  rw [F_at (d := d_Desk_slope) [some (.cell c), some (.str s), none] rfl rfl rfl]
  simp only [d_Desk_slope, m_Desk_slope]
  simp [e1, f1, C]
end Mini
namespace Mini
open PySem L2
theorem lams_cons {P : Par} {k n : Nat} {lcs : List Str} {rhs a b : E} {σ : Sig} {δ δ1 δ2 : Dl} {c : Str} {p : List D} {d : D} (h1 : (evA' P a).v σ δ = .ex c p δ1) (h2 : lcs.contains c = true) (h3 : (evA' P rhs).v (σ.set k (some (.int n))) δ1 = .ok d δ2)
    (h4 : cmpD .NotEq (.lst ((lcs.map fun x => .bl (decide (x = c))) ++ [.bl true])) d = some false) : lamsGo P k lcs rhs σ (.cons a b) n δ = lamsGo P k lcs rhs σ b (n + 1) δ2 := by
  show (match (evA' P a).v σ δ with
    | .ex c _ δ => if lcs.contains c then (match (evA' P rhs).v (σ.set k (some (.int n))) δ with
      | .ok d δ => if cmpD .NotEq (D.lst ((lcs.map fun x => D.bl (decide (x = c))) ++ [D.bl true])) d = some false then lamsGo P k lcs rhs σ b (n + 1) δ else O.bad
      | _ => O.bad) else O.bad
    | _ => O.bad) = _
  rw [h1]
  simp only [h2, h3, h4, if_true]
def bls (l : List Bool) : D := .lst (l.map .bl)
theorem ne_bls (l : List Bool) (h : l.length ≤ 100) : cmpD .NotEq (bls l) (bls l) = some false := by
  show (eqD (bls l) (bls l)).map (!·) = _
  rw [eqD_self (by
    unfold bls
    rw [plain_lst]
    exact plainL_all fun t ht => by
      obtain ⟨b, _, rfl⟩ := List.mem_map.mp ht
      first | exact plain_bl _ _ | simp)]
  rfl
def lcs45 : List Str := ["BadNumber", "BadForm", "BadText", "BadPaper", "NoWay", "TooLarge", "BadDeed"]
theorem row0 : (D.lst ((lcs45.map fun x => .bl (decide (x = ("BadNumber" : Str)))) ++ [.bl true])) = bls [true, false, false, false, false, false, false, true] := by kernel_rfl
theorem row1 : (D.lst ((lcs45.map fun x => .bl (decide (x = ("BadForm" : Str)))) ++ [.bl true])) = bls [false, true, false, false, false, false, false, true] := by kernel_rfl
theorem row2 : (D.lst ((lcs45.map fun x => .bl (decide (x = ("BadText" : Str)))) ++ [.bl true])) = bls [false, false, true, false, false, false, false, true] := by kernel_rfl
theorem row3 : (D.lst ((lcs45.map fun x => .bl (decide (x = ("BadPaper" : Str)))) ++ [.bl true])) = bls [false, false, false, true, false, false, false, true] := by kernel_rfl
theorem row4 : (D.lst ((lcs45.map fun x => .bl (decide (x = ("NoWay" : Str)))) ++ [.bl true])) = bls [false, false, false, false, true, false, false, true] := by kernel_rfl
theorem row5 : (D.lst ((lcs45.map fun x => .bl (decide (x = ("TooLarge" : Str)))) ++ [.bl true])) = bls [false, false, false, false, false, true, false, true] := by kernel_rfl
theorem row6 : (D.lst ((lcs45.map fun x => .bl (decide (x = ("BadDeed" : Str)))) ++ [.bl true])) = bls [false, false, false, false, false, false, true, true] := by kernel_rfl
section
variable (s0 s1 s4 s5 s6 : Option D) (δ : Dl)
theorem rh0 : (evA' (PF 50) e9_law).v [s0, s1, none, some (.int (0 : Nat)), s4, s5, s6] δ = .ok (bls [true, false, false, false, false, false, false, true]) δ := by kernel_rfl
theorem rh1 : (evA' (PF 50) e9_law).v [s0, s1, none, some (.int (1 : Nat)), s4, s5, s6] δ = .ok (bls [false, true, false, false, false, false, false, true]) δ := by kernel_rfl
theorem rh2 : (evA' (PF 50) e9_law).v [s0, s1, none, some (.int (2 : Nat)), s4, s5, s6] δ = .ok (bls [false, false, true, false, false, false, false, true]) δ := by kernel_rfl
theorem rh3 : (evA' (PF 50) e9_law).v [s0, s1, none, some (.int (3 : Nat)), s4, s5, s6] δ = .ok (bls [false, false, false, true, false, false, false, true]) δ := by kernel_rfl
theorem rh4 : (evA' (PF 50) e9_law).v [s0, s1, none, some (.int (4 : Nat)), s4, s5, s6] δ = .ok (bls [false, false, false, false, true, false, false, true]) δ := by kernel_rfl
theorem rh5 : (evA' (PF 50) e9_law).v [s0, s1, none, some (.int (5 : Nat)), s4, s5, s6] δ = .ok (bls [false, false, false, false, false, true, false, true]) δ := by kernel_rfl
theorem rh6 : (evA' (PF 50) e9_law).v [s0, s1, none, some (.int (6 : Nat)), s4, s5, s6] δ = .ok (bls [false, false, false, false, false, false, true, true]) δ := by kernel_rfl
end
theorem C_cwNeg (k : Nat) (δ : Dl) {z : Int} (hm : z < 0) : callE (PF (k + 1)) f_check_whole [.int z, .int 0] δ = .ex "BadNumber" [] δ := by
  have := C_cwBad k δ (m := 0 - z) (by omega)
  rwa [show (0 : Int) - (0 - z) = z by omega] at this
section
variable (s0 s1 s5 s6 : Option D) (δ : Dl) {n : Nat} (h1 : 1 ≤ n) (h2 : n ≤ 900)
include h1
theorem x0 : (evA' (PF 50) e7_law).v [s0, s1, none, none, some (.int (n : Nat)), s5, s6] δ = .ex "BadNumber" [] δ := by
  have C := C_cwNeg 49 δ (z := -(n : Int)) (by omega)
  have C : callE (PF 50) f_check_whole [.int (-(n : Int)), .int 0] δ = .ex "BadNumber" [] δ := C
  simp [e7_law, C]
theorem x1 : (evA' (PF 50) e6_law).v [s0, s1, none, none, some (.int (n : Nat)), s5, s6] δ = .ex "BadForm" [] δ := by
  have C : callE (PF 50) f_check_expression [.int (n : Nat)] δ = .ex "BadForm" [] δ := C_cxInt 48 δ n
  simp [e6_law, C]
include h2
theorem x2 : ∃ p, (evA' (PF 50) e5_law).v [s0, s1, none, none, some (.int (n : Nat)), s5, s6] δ = .ex "BadText" p δ := by
  have C := C_read45 δ h1 h2
  have a := add_st (a := dgs n) (b := [36]) (by have := dgs_len n; simp; omega)
  refine ⟨[.int ((dgs n).length : Nat)], ?_⟩
  simp only [e5_law]
  simp [C_str45 δ h1 h2, s_dol, a, C]
omit h2
theorem x3 : ∃ p δ', (evA' (PF 50) e4_law).v [s0, s1, none, none, some (.int (n : Nat)), s5, s6] δ = .ex "BadPaper" p (δ ++ δ') := by
  obtain ⟨p, δ', C⟩ := C_paperBad 47 δ (m := n) (by omega)
  have C : callE (PF 50) f_look_paper [.tup [.int (4 * (n : Int)), .int 3, .tup []]] δ = _ := C
  refine ⟨p, δ', ?_⟩
  have m1 : mulOk 4 n = true := mulOk_l (by decide)
  simp [e4_law, bin_mul, m1, C]
theorem x4 : (evA' (PF 50) e3_law).v [s0, s1, none, none, some (.int (n : Nat)), s5, s6] δ = .ex "NoWay" [] δ := by
  have C : callE (PF 50) f_made_fractions [.int (n : Nat), .int 0] δ = .ex "NoWay" [] δ := C_made0 49 δ n
  simp [e3_law, C]
theorem x5 : (evA' (PF 50) e2_law).v [s0, s1, none, none, some (.int (n : Nat)), s5, s6] δ = .ex "TooLarge" [] δ := by
  have C : callE (PF 50) f_is_prime [.int (1000000000000 + (n : Int))] δ = .ex "TooLarge" [] δ := C_primeL 48 δ (m := n) (by omega)
  simp [e2_law, C]
include h2
theorem x6 {c : Nat} (hd : δ[c]? = some dk) : (evA' (PF 50) e1_law).v [s0, s1, none, none, some (.int (n : Nat)), some (.cell c), s6] δ = .ex "BadDeed" [] δ := by
  have e1 : insD δ "Desk" (.cell c) = some (c, dk.tail) := by
    show (δ[c]?).bind _ = _
    rw [hd]
    rfl
  have f1 : getF dk.tail "slope" = none := by kernel_rfl
  obtain ⟨s, es⟩ : ∃ s, binD .Mult (.str "a") (.int (n : Nat)) = some (.str s) := by
    have e : ∀ j : Int, binD .Mult (.str "a") (.int j) = if decide (2 ≤ j) && decide (j ≤ 1000) && decide (0 < ("a" : Str).length) && decide (("a" : Str).length ≤ 1000) then some (.str (repZ "a" j.toNat)) else if decide (j = 1) then some (.str "a") else none := fun j => rfl
    rw [e]
    have l1 : ("a" : Str).length = 1 := by decide +kernel
    by_cases hn : n = 1
    · subst hn
      exact ⟨"a", by rw [if_neg (by simp)]; rfl⟩
    · exact ⟨_, by rw [if_pos (by rw [l1]; simp; omega)]⟩
  have C : callE (PF 50) f_Desk_slope [.cell c, .str s] δ = .ex "BadDeed" [] δ := C_slope 48 δ c s hd
  simp [e1_law, e1, f1, es, C]
end
theorem lams45 (s0 s1 s6 : Option D) (δ : Dl) {n m : Nat} (h1 : 1 ≤ n) (h2 : n ≤ 900) (hd : δ[m]? = some dk) : ∃ ts : Dl, evS (PF 50) fuel (.lams 2 3 ["BadNumber", "BadForm", "BadText", "BadPaper", "NoWay", "TooLarge", "BadDeed"] e9_law (.cons e7_law (.cons e6_law (.cons e5_law (.cons e4_law (.cons e3_law (.cons e2_law (.cons e1_law .nil))))))))
    [s0, s1, none, none, some (.int (n : Nat)), some (.cell m), s6] δ = .nx [s0, s1, none, none, some (.int (n : Nat)), some (.cell m), s6] (δ ++ ts) := by
  obtain ⟨p2, X2⟩ := x2 s0 s1 (some (.cell m)) s6 δ h1 h2
  obtain ⟨p3, ts, X3⟩ := x3 s0 s1 (some (.cell m)) s6 δ h1
  have hd' : (δ ++ ts)[m]? = some dk := by
    rw [List.getElem?_append_left (List.getElem?_eq_some_iff.mp hd).1]; exact hd
  refine ⟨ts, ?_⟩
  show lamsGo (PF 50) 3 lcs45 e9_law [s0, s1, none, none, some (.int (n : Nat)), some (.cell m), s6] _ 0 δ = _
  have l8 : ∀ l : List Bool, l.length = 8 → cmpD .NotEq (bls l) (bls l) = some false := fun l h => ne_bls l (by omega)
  rw [lams_cons (x0 s0 s1 (some (.cell m)) s6 δ h1) (by decide +kernel) (rh0 s0 s1 _ _ s6 δ) (by rw [row0]; exact l8 _ rfl),
    lams_cons (x1 s0 s1 (some (.cell m)) s6 δ h1) (by decide +kernel) (rh1 s0 s1 _ _ s6 δ) (by rw [row1]; exact l8 _ rfl),
    lams_cons X2 (by decide +kernel) (rh2 s0 s1 _ _ s6 δ) (by rw [row2]; exact l8 _ rfl),
    lams_cons X3 (by decide +kernel) (rh3 s0 s1 _ _ s6 (δ ++ ts)) (by rw [row3]; exact l8 _ rfl),
    lams_cons (x4 s0 s1 (some (.cell m)) s6 (δ ++ ts) h1) (by decide +kernel) (rh4 s0 s1 _ _ s6 (δ ++ ts)) (by rw [row4]; exact l8 _ rfl),
    lams_cons (x5 s0 s1 (some (.cell m)) s6 (δ ++ ts) h1) (by decide +kernel) (rh5 s0 s1 _ _ s6 (δ ++ ts)) (by rw [row5]; exact l8 _ rfl),
    lams_cons (x6 s0 s1 s6 (δ ++ ts) h1 h2 hd') (by decide +kernel) (rh6 s0 s1 _ _ s6 (δ ++ ts)) (by rw [row6]; exact l8 _ rfl)]
  rfl
theorem body45 (nc c : Nat) (δ : Dl) (hd : DcW nc δ) (hc : c < nc) (s0 s4 s5 s6 : Option D) :
    ∃ (σ' : Sig) (δ' : Dl), DcW nc δ' ∧ evS (PF 50) fuel b1_law [s0, some (.cell c), none, none, s4, s5, s6] δ = .nx σ' δ' ∧ ∃ t4 t5 t6, σ' = [s0, some (.cell c), none, none, t4, t5, t6] := by
  obtain ⟨r, t, r1, r2, ht, R⟩ := C_rollW 50 (by omega) hd hc 900 (by omega) (by omega)
  have R : callE (PF 50) f_law_roll [.cell c, .int 900] δ = .ok (.int r) (δ.set c t) := R
  obtain ⟨n, hn⟩ : ∃ n : Nat, 1 + r = n := ⟨(1 + r).toNat, by omega⟩
  have dW := hd.set (k := c) ht
  generalize δ.set c t = δ1 at R dW
  have Dk : callE (PF 50) f_Desk__init [.cell δ1.length] (δ1 ++ [[.ty "Desk"]]) = .ok .non (δ1 ++ [dk]) := C_desk 49 δ1
  have hdk : (δ1 ++ [dk])[δ1.length]? = some dk := by
    rw [List.getElem?_append_right (Nat.le_refl _), Nat.sub_self]; rfl
  obtain ⟨ts, L⟩ := lams45 s0 (some (.cell c)) s6 (δ1 ++ [dk]) (n := n) (m := δ1.length) (by omega) (by omega) hdk
  have q1 : evS (PF 50) fuel (.asg (.tup [4, 5]) (.tup (.cons (.bin .Add (.int 1) (.call f_law_roll (.cons (.var 1) (.cons (.int 900) .nil)))) (.cons (.mk "Desk" f_Desk__init .nil) .nil)))) [s0, some (.cell c), none, none, s4, s5, s6] δ =
      .nx [s0, some (.cell c), none, none, some (.int (n : Nat)), some (.cell δ1.length), s6] (δ1 ++ [dk]) := by
    simp [R, hn, Dk]
  refine ⟨[s0, some (.cell c), none, none, some (.int (n : Nat)), some (.cell δ1.length), s6], _, (dW.app [dk]).app ts, ?_, _, _, _, rfl⟩
  unfold b1_law
  rw [ev_seq, q1, next_nx, L]
theorem rounds45 (n : Nat) (s0 : Option D) : ∀ (l : List Nat) (δ : Dl) (s1 s4 s5 s6 : Option D), DcW n δ → (∀ c, c ∈ l → c < n) →
    ∃ (σ' : Sig) (δ' : Dl), forGo (.name 1) (evS (PF 50) fuel b1_law) (l.map .cell) [s0, s1, none, none, s4, s5, s6] δ = .nx σ' δ'
  | [], δ, s1, s4, s5, s6, _, _ => ⟨_, _, rfl⟩
  | c :: l, δ, s1, s4, s5, s6, hd, hlt => by
    obtain ⟨σ1, δ1, d1, E, t4, t5, t6, rfl⟩ := body45 n c δ hd (hlt c List.mem_cons_self) s0 s4 s5 s6
    obtain ⟨σ2, δ2, ih⟩ := rounds45 n s0 l δ1 (some (.cell c)) t4 t5 t6 d1 fun x hx => hlt x (List.mem_cons_of_mem _ hx)
    exact ⟨σ2, δ2, by rw [List.map_cons, forGo_nx (σ1 := [s0, some (.cell c), none, none, s4, s5, s6]) (by simp) E, ih]⟩
theorem mathG (ns : List Int) (h : ns.length ≤ 63) : ∃ δ, runF (PF 50) fuel 1 d_law.N.length d_law.m [.frz (ns.map .int)] [] = .ok (.bl true) δ := by
  obtain ⟨n, δ, hd, e⟩ := C_rounds 48 ns h 3
  obtain ⟨σ, δ', r⟩ := rounds45 n (some (.frz (ns.map .int))) (List.range n) δ none none none none hd.weak fun c hc => List.mem_range.mp hc
  refine ⟨δ', ?_⟩
  have e' : callE (PF 50) f_law_rounds [.frz (ns.map .int), .int 3] [] = .ok (.lst ((List.range n).map .cell)) δ := e
  rw [runF_at (P := PF 50) (n := fuel) (k := 1) (w := d_law.N.length) (s := d_law.m) (ds := [.frz (ns.map .int)]) (δ := []) [some (.frz (ns.map .int)), none, none, none, none, none, none] rfl rfl]
  simp only [d_law, m_law]
  generalize (ns.map D.int) = fz at *
  simp [e', r]
end Mini
namespace Mini
open PySem PySem.Spec PyProof.Rows L2
def top (i : Nat) : Stmt := PySem.Challenge.pw_algebrahall_k45_refusals_apart.main.body.getD i (.Pass ⟨0, 0, 0, 0⟩)
def txt (i : Nat) : Txt := ⟨defArgs (top i), defBody (top i), defScope (top i)⟩
def clsBd : Stmt → List Stmt
  | .ClassDef _ _ _ b _ _ _ _ _ _ _ => b
  | _ => []
def txm (i j : Nat) : Txt := ⟨defArgs ((clsBd (top i)).getD j (.Pass ⟨0, 0, 0, 0⟩)), defBody ((clsBd (top i)).getD j (.Pass ⟨0, 0, 0, 0⟩)), defScope ((clsBd (top i)).getD j (.Pass ⟨0, 0, 0, 0⟩))⟩
def theJob : Job where
  b := { gn := fun g => (consts[g]?).map (·.1), blts := ["range", "len", "isinstance", "ValueError", "str", "int", "bool", "abs", "tuple", "all"], told := "_law_told", hs := toldHs, gxs := [("is_base", none)], lks := [], tls := [], als := [("made_fractions", "made")], fl := [("Desk", "rows"), ("Desk", "deeds"), ("Desk", "undone")], pay := [("BadText", "place"), ("BadPaper", "part")], tell := some ⟨"some", "e", "AlgebraFault", ["BadNumber", "BadForm", "BadText", "BadPaper"], ["NoWay", "TooLarge", "BadDeed", "ValueError"], ["BadNumber", "BadForm", "BadText", "BadPaper", "NoWay", "TooLarge", "BadDeed"]⟩, lawN := ["script", "dice", "whats", "k", "many", "desk", "j"] }
  rs := ["TooLarge", "NoWay", "BadForm", "BadNumber", "BadDeed"]
  X := errX
  gs := consts
  ds := defs
  ts := [txt 80, txm 76 5, txt 15, txt 20, txt 17, txt 57, txt 54, txt 12, txt 79, txm 76 0, txt 78, txt 65, txt 64, txm 76 2, txt 13, txt 18, txt 58, txt 53, txt 16, txt 59, txt 14, txt 60, txt 61, txt 63, txt 62]
  law := d_law
  tlaw := txt 82
  tt := txt 81
  ta := "what"
  n := fuel
  k := depth
  lw := false
  file := PySem.Challenge.pw_algebrahall_k45_refusals_apart.main.file
theorem bd : ∀ p, p ∈ theJob.ds.zip theJob.ts → bindB p.2 p.1.ps := by
  intro p hp
  simp only [theJob, defs, List.zip_cons_cons, List.zip_nil_right, List.mem_cons, List.not_mem_nil, or_false] at hp
  rcases hp with rfl | rfl | rfl | rfl | rfl | rfl | rfl | rfl | rfl | rfl | rfl | rfl | rfl | rfl | rfl | rfl | rfl | rfl | rfl | rfl | rfl | rfl | rfl | rfl | rfl
  · exact fun _ _ _ _ _ _ _ _ us hl => match us, hl with | [_, _], _ => rfl
  · exact fun _ _ _ _ _ _ _ _ us hl => match us, hl with | [_, _], _ => rfl
  · exact fun _ _ _ _ _ _ _ _ us hl => match us, hl with | [_], _ => rfl
  · exact fun _ _ _ _ _ _ _ _ us hl => match us, hl with | [_, _], _ => rfl
  · exact fun _ _ _ _ _ _ _ _ us hl => match us, hl with | [_], _ => rfl
  · exact fun _ _ _ _ _ _ _ _ us hl => match us, hl with | [_], _ => rfl
  · exact fun _ _ _ _ _ _ _ _ us hl => match us, hl with | [_], _ => rfl
  · exact fun _ _ _ _ _ _ _ _ us hl => match us, hl with | [_, _], _ => rfl
  · exact fun _ _ _ _ _ _ _ _ us hl => match us, hl with | [_, _], _ => rfl
  · exact fun _ _ _ _ _ _ _ _ us hl => match us, hl with | [_], _ => rfl
  · exact fun _ _ _ _ _ _ _ _ us hl => match us, hl with | [_], _ => rfl
  · exact fun _ _ _ _ _ _ _ _ us hl => match us, hl with | [_], _ => rfl
  · exact fun _ _ _ _ _ _ _ _ us hl => match us, hl with | [_, _], _ => rfl
  · exact fun _ _ _ _ _ _ _ _ us hl => match us, hl with | [_, _], _ => rfl
  · exact fun _ _ _ _ _ _ _ _ us hl => match us, hl with | [_, _], _ => rfl
  · exact fun _ _ _ _ _ _ _ _ us hl => match us, hl with | [_, _], _ => rfl
  · exact fun _ _ _ _ _ _ _ _ us hl => match us, hl with | [_, _, _], _ => rfl
  · exact fun _ _ _ _ _ _ _ _ us hl => match us, hl with | [_], _ => rfl
  · exact fun _ _ _ _ _ _ _ _ us hl => match us, hl with | [_, _, _], _ => rfl
  · exact fun _ _ _ _ _ _ _ _ us hl => match us, hl with | [_, _, _], _ => rfl
  · exact fun _ _ _ _ _ _ _ _ us hl => match us, hl with | [_, _, _], _ => rfl
  · exact fun _ _ _ _ _ _ _ _ us hl => match us, hl with | [_, _, _], _ => rfl
  · exact fun _ _ _ _ _ _ _ _ us hl => match us, hl with | [_, _, _], _ => rfl
  · exact fun _ _ _ _ _ _ _ _ us hl => match us, hl with | [_, _, _], _ => rfl
  · exact fun _ _ _ _ _ _ _ _ us hl => match us, hl with | [_, _], _ => rfl
theorem okJob : theJob.Ok where
  len := rfl
  ds := by decide +kernel
  law := by decide +kernel
  ps := rfl
  sT := by decide +kernel
  hT := by decide +kernel
  hva := by decide +kernel
  hca := by decide +kernel
  hdt := by decide +kernel
  gn := rfl
  hsX := fun c s h => by
    have e : ∀ p ∈ toldHs, p.1 ∈ errX := by decide +kernel
    exact e (c, s) h
  rsX := by decide +kernel
  ng := by decide +kernel
  tg := by decide +kernel
  tl0 := by decide +kernel
  tll := by decide +kernel
  lm := rfl
  mx := by decide +kernel
  k := by decide
  py := by decide +kernel
  bd := bd
  nlq := by decide +kernel
  tq := by decide +kernel
  bt := fun _ _ _ _ _ _ _ _ _ us hl => match us, hl with | [_], _ => rfl
  bl := fun _ _ _ _ _ _ _ _ us hl => match us, hl with | [_], _ => rfl
abbrev Rw : PySem.W.OpenRow := PySem.W.OpenLaw.row PySem.Challenge.rw_algebrahall_k45_refusals_apart
abbrev tfs : List He.Defn := (d_law.x, none) :: theJob.b.gxs
abbrev hk : PySem.W.Hook := hookC 4 theJob.fa theJob.fn [] tfs theJob.ex
def ob (s : PySem.W.SharedT) : He.AlX := obsC 4 theJob.fa theJob.fn [] tfs theJob.ex (HandSHeadRun.getT s)
theorem ob_eq (s : PySem.W.SharedT) : ob s = hk.obs s.abs := obsC_eq (HandSHeadRun.getT_eq s)
abbrev loose : List Str := (["_wall", "AlgebraFault", "BadNumber", "BadForm", "BadText", "BadPaper", "NoWay", "TooLarge", "BadDeed", "MOST", "check_whole", "shared", "power_by", "is_prime", "is_base", "look_paper", "look_part", "made", "made_fractions", "of", "plus", "plus_fractions", "minus", "minus_fractions", "times", "over", "cut", "lead", "at", "add"] : List Str) ++ (["less", "scaled", "product", "parted", "monic", "divisor", "made_quotients", "plus_quotients", "minus_quotients", "times_as", "over_as", "LETTERS", "FIGURES", "GREAT", "is_expression", "check_expression", "told", "told_at", "read", "read_sum", "read_product", "read_neg", "read_power", "read_number", "read_one", "sloped", "short", "short_neg", "short_power", "short_two"] : List Str) ++ (["parts_by", "quotient_of", "fitting", "fits", "of_poly", "stands", "Desk", "_law_dice", "_law_roll", "_law_rounds", "_law_told"] : List Str)
theorem run (w : World) : HandSHeadRun.RunEq Rw (PySem.W.view Rw.prog [82]) hk ob steps loose w := by
  intro os
  kernel_rfl
theorem math : ∀ ns : List Int, ns.length ≤ 63 → ∃ δ, theJob.run ns = .ok (.bl true) δ := fun ns h => mathG ns h
end Mini
open PySem PySem.W PySem.Calls PyProof.Rows
theorem PySem.Challenge.cw_algebrahall_k45_refusals_apart_holds : PySem.Challenge.rw_algebrahall_k45_refusals_apart.Holds := by
  w_on; o_law
  refine HandSHeadRun.head_any (r := Mini.Rw) (q := PySem.W.view Mini.Rw.prog [82]) (H := Mini.hk) (ob := Mini.ob) (M := Mini.steps) (loose := Mini.loose) (d := HandSHeadRun.topDef Mini.Rw.prog 82) (kwd := []) Mini.ob_eq
    (by kernel_rfl) (fun s => by kernel_rfl) Mini.run (by kernel_rfl) (by kernel_rfl) (by kernel_rfl) (by rfl) (by first | assumption | decide +kernel) (by decide +kernel) ⟨rfl, rfl, rfl, rfl, rfl, by decide +kernel⟩ ?hw ?hc
  case hw => w_witness2
  case hc =>
    refine LamX.walk_ofTsE (l := PySem.Challenge.rw_algebrahall_k45_refusals_apart) (n := 63) (k := 4 * Mini.theJob.k + 4 + Mini.theJob.b.sh) (x := "script") (CX := fun w => L2.CX (PySem.Challenge.rw_algebrahall_k45_refusals_apart).prog w) rfl (by decide) (by kernel_rfl) ⟨rfl, by decide, by decide⟩ ?F (fun _ _ _ _ _ h => by obtain ⟨_, _, _, _, _, _, _, _, _, _, _, _, z⟩ := h; exact z.elim)
    intro w mg fa h Y G hmg0
    obtain ⟨K, KX, c⟩ := Y
    have hmg : mg Mini.theJob.law.x = some (.ref fa) := by
      have e : (HandSHeadRun.topDef Mini.Rw.prog 82).name = Mini.theJob.law.x := by kernel_rfl
      rw [← e]
      exact hmg0
    exact ⟨K, KX, Mini.job_at Mini.okJob rfl (.inl rfl) (.inr ⟨rfl, by kernel_rfl⟩) Mini.math KX c G hmg⟩
