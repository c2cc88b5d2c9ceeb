import PyProof.Rows.All
import Wide.All
import OpenK.AllK
import Wide.FinOn
import HandS.ForMost
import HandS.ForExc
import HandS.Flow
import HandS.Style
import HandS.Defaults
import HandS.IsInst
import HandS.Conv
import HandS.TupAny
import HandS.Lambda
import HandS.TryMany
import HandS.ExcSuper
import HandS.Strs
import HandS.SetFor
import HandS.EndOwn
import PySem.Challenge.RW_nobodymeets_k07_whole_stretches_of_free
import KE.KExcSuper
import KE.KExcInit
import KE.GoesMore
import PyProof.ReprRoads
import KE.SortKeyHeap
import HandS.SortKw
import KE.KStateDown
import KE.KNest
import HandS.Head0
import HandS.Head1
import HandS.Head2
import HandS.HeadHook1
import HandS.HeadHook2
import HandS.MakeKw
section
set_option Elab.async false
set_option linter.all false
set_option maxRecDepth 100000
set_option maxHeartbeats 4000000
/-! The text by places, data over the abstract heap, the small defs. -/
namespace K7
open PySem L2
/-! ### the text -/
def top (i : Nat) : Stmt := PySem.Challenge.pw_nobodymeets_k07_whole_stretches_of_free.main.body.getD i (.Pass ⟨0, 0, 0, 0⟩)
abbrev sIsInt : Stmt := top 5
abbrev sIsNum : Stmt := top 6
abbrev sIsSeq : Stmt := top 7
abbrev sMany : Stmt := top 9
abbrev sIsStr : Stmt := top 11
abbrev sNeed : Stmt := top 12
abbrev sTick : Stmt := top 13
abbrev sRoom : Stmt := top 14
abbrev sFree : Stmt := top 15
abbrev sTicks : Stmt := top 16
abbrev sBut : Stmt := top 17
abbrev sLess : Stmt := top 18
abbrev sBoth : Stmt := top 19
abbrev sEith : Stmt := top 20
abbrev sShort : Stmt := top 21
abbrev sBox : Stmt := top 23
abbrev sTake : Stmt := top 24
abbrev sPick : Stmt := top 25
abbrev sStr : Stmt := top 26
abbrev sHas : Stmt := top 27
abbrev sRow : Stmt := top 28
abbrev sTold : Stmt := top 29
abbrev sWrong : Stmt := top 30
abbrev sRef : Stmt := top 31
abbrev sLaw : Stmt := top 32
/-- a def of the text behind the top: at f, a global of its own name -/
abbrev FnP (K : PySem.W.Frag) (x : Str) (st : Stmt) (dvs : List V) (f : Addr) (fd : FuncData) : Prop := FunD K x x (defArgs st) (defBody st) (defScope st) dvs [] f fd
/-! ### data over the heap -/
mutual
inductive Dv (H : Hp) : V → PyData → Prop
  | non : Dv H .non .none
  | bl (b : Bool) : Dv H (.bl b) (.bool b)
  | int (i : Int) : Dv H (.int i) (.int i)
  | str (x : Str) : Dv H (.str x) (.str x)
  | lst {a : Addr} {xs : List V} {ds : List PyData} : H a = some (.lst xs) → DvAll H xs ds → Dv H (.ref a) (.list ds)
  | tup {a : Addr} {xs : List V} {ds : List PyData} : H a = some (.tup xs) → DvAll H xs ds → Dv H (.ref a) (.tuple ds)
inductive DvAll (H : Hp) : List V → List PyData → Prop
  | nil : DvAll H [] []
  | cons {v : V} {vs : List V} {d : PyData} {ds : List PyData} : Dv H v d → DvAll H vs ds → DvAll H (v :: vs) (d :: ds)
end
/-- H' knows all lists and tuples of H -/
def Sub (H H' : Hp) : Prop := (∀ a xs, H a = some (.lst xs) → H' a = some (.lst xs)) ∧ ∀ a xs, H a = some (.tup xs) → H' a = some (.tup xs)
theorem Sub.refl (H : Hp) : Sub H H := ⟨fun _ _ h => h, fun _ _ h => h⟩
theorem Sub.trans {H H1 H2 : Hp} (a : Sub H H1) (b : Sub H1 H2) : Sub H H2 := ⟨fun c x h => b.1 c x (a.1 c x h), fun c x h => b.2 c x (a.2 c x h)⟩
theorem Sub.of {H H' : Hp} (s : Same H H') : Sub H H' := ⟨fun _ _ h => s _ _ h, fun _ _ h => s _ _ h⟩
theorem Sub.new {H : Hp} {p : Addr} {o : HO} (h : H p = none) : Sub H (upd H p o) := ⟨fun a x e => by rw [upd_ne (ne_of_none e h)]; exact e, fun a x e => by rw [upd_ne (ne_of_none e h)]; exact e⟩
theorem Same.new {H : Hp} {p : Addr} {o : HO} (h : H p = none) : Same H (upd H p o) := fun a x e => by rw [upd_ne (ne_of_none e h)]; exact e
mutual
theorem Dv.ext {H H' : Hp} (s : Sub H H') : ∀ {v : V} {d : PyData}, Dv H v d → Dv H' v d
  | _, _, .non => .non
  | _, _, .bl b => .bl b
  | _, _, .int i => .int i
  | _, _, .str x => .str x
  | _, _, .lst h r => .lst (s.1 _ _ h) (DvAll.ext s r)
  | _, _, .tup h r => .tup (s.2 _ _ h) (DvAll.ext s r)
theorem DvAll.ext {H H' : Hp} (s : Sub H H') : ∀ {vs : List V} {ds : List PyData}, DvAll H vs ds → DvAll H' vs ds
  | _, _, .nil => .nil
  | _, _, .cons a r => .cons (Dv.ext s a) (DvAll.ext s r)
end
mutual
theorem Dv.dp {K : PySem.W.Frag} {H : Hp} : ∀ {v : V} {d : PyData}, Dv H v d → Dp K H v d
  | _, _, .non => .non
  | _, _, .bl b => .bl b
  | _, _, .int i => .int i
  | _, _, .str x => .str x
  | _, _, .lst h r => .lst (SqL.of h) (DvAll.dp r)
  | _, _, .tup h r => .tup (SqT.of h) (DvAll.dp r)
theorem DvAll.dp {K : PySem.W.Frag} {H : Hp} : ∀ {vs : List V} {ds : List PyData}, DvAll H vs ds → DpAll K H vs ds
  | _, _, .nil => .nil
  | _, _, .cons a r => .cons (Dv.dp a) (DvAll.dp r)
end
theorem DvAll.length {H : Hp} : ∀ {vs : List V} {ds : List PyData}, DvAll H vs ds → vs.length = ds.length
  | _, _, .nil => rfl
  | _, _, .cons _ r => congrArg (· + 1) (DvAll.length r)
theorem DvAll.get {H : Hp} : ∀ {vs : List V} {ds : List PyData} {i : Nat} {v : V}, DvAll H vs ds → vs[i]? = some v → ∃ d, ds[i]? = some d ∧ Dv H v d
  | _, _, i, _, .nil, h => by simp at h
  | _, _, 0, _, .cons a _, h => by
    have e := Option.some.inj h
    subst e
    exact ⟨_, rfl, a⟩
  | _, _, i + 1, v, .cons _ r, h => DvAll.get (i := i) r (by simpa using h)
theorem DvAll.append {H : Hp} : ∀ {vs ws : List V} {ds es : List PyData}, DvAll H vs ds → DvAll H ws es → DvAll H (vs ++ ws) (ds ++ es)
  | _, _, _, _, .nil, r => r
  | _, _, _, _, .cons a q, r => .cons a (DvAll.append q r)
theorem DvAll.snoc {H : Hp} {vs : List V} {ds : List PyData} {v : V} {d : PyData} (a : DvAll H vs ds) (b : Dv H v d) : DvAll H (vs ++ [v]) (ds ++ [d]) := a.append (.cons b .nil)
theorem DvAll.take {H : Hp} : ∀ {vs : List V} {ds : List PyData} (n : Nat), DvAll H vs ds → DvAll H (vs.take n) (ds.take n)
  | _, _, 0, _ => .nil
  | _, _, _ + 1, .nil => .nil
  | _, _, n + 1, .cons a r => .cons a (DvAll.take n r)
theorem DvAll.drop {H : Hp} : ∀ {vs : List V} {ds : List PyData} (n : Nat), DvAll H vs ds → DvAll H (vs.drop n) (ds.drop n)
  | _, _, 0, r => r
  | _, _, _ + 1, .nil => .nil
  | _, _, n + 1, .cons _ r => DvAll.drop n r
theorem DvAll.ints {H : Hp} : ∀ (ns : List Int), DvAll H (ns.map V.int) (ns.map PyData.int)
  | [] => .nil
  | n :: r => .cons (.int n) (DvAll.ints r)
theorem DvAll.bls {H : Hp} : ∀ (ns : List Bool), DvAll H (ns.map V.bl) (ns.map PyData.bool)
  | [] => .nil
  | n :: r => .cons (.bl n) (DvAll.bls r)
/-- the type's name -/
def tyD : PyData → String
  | .none => "NoneType"
  | .bool _ => "bool"
  | .int _ => "int"
  | .str _ => "str"
  | .list _ => "list"
  | .tuple _ => "tuple"
  | .dict _ => "dict"
theorem Dv.ty {K : PySem.W.Frag} {H : Hp} {v : V} {d : PyData} (h : Dv H v d) : TyX K H v (.type (tyD d)) := by
  cases h with
  | non => exact .base .non
  | bl b => exact .base (.bl b)
  | int i => exact .base (.int i)
  | str x => exact .base (.str x)
  | lst e _ => exact .base (.lst e)
  | tup e _ => exact .base (.tup e)
def isIntD : PyData → Bool
  | .int _ => true
  | _ => false
def intish : PyData → Bool
  | .int _ => true
  | .bool _ => true
  | _ => false
def isBoolD : PyData → Bool
  | .bool _ => true
  | _ => false
def isSeqD : PyData → Bool
  | .list _ => true
  | .tuple _ => true
  | _ => false
theorem kit_int {K : PySem.W.Frag} {H : Hp} {v : V} {d : PyData} (h : Dv H v d) : PySem.W.kitOne K (.type (tyD d)) (.type "int") = some (intish d) := by
  cases h with
  | non => exact kit_ty (a := "NoneType") (b := "int") (r := false) (by decide +kernel)
  | bl b => exact kit_ty (a := "bool") (b := "int") (r := true) (by decide +kernel)
  | int i => exact kit_ty (a := "int") (b := "int") (r := true) (by decide +kernel)
  | str x => exact kit_ty (a := "str") (b := "int") (r := false) (by decide +kernel)
  | lst e r => exact kit_ty (a := "list") (b := "int") (r := false) (by decide +kernel)
  | tup e r => exact kit_ty (a := "tuple") (b := "int") (r := false) (by decide +kernel)
theorem kit_bool {K : PySem.W.Frag} {H : Hp} {v : V} {d : PyData} (h : Dv H v d) : PySem.W.kitOne K (.type (tyD d)) (.type "bool") = some (isBoolD d) := by
  cases h with
  | non => exact kit_ty (a := "NoneType") (b := "bool") (r := false) (by decide +kernel)
  | bl b => exact kit_ty (a := "bool") (b := "bool") (r := true) (by decide +kernel)
  | int i => exact kit_ty (a := "int") (b := "bool") (r := false) (by decide +kernel)
  | str x => exact kit_ty (a := "str") (b := "bool") (r := false) (by decide +kernel)
  | lst e r => exact kit_ty (a := "list") (b := "bool") (r := false) (by decide +kernel)
  | tup e r => exact kit_ty (a := "tuple") (b := "bool") (r := false) (by decide +kernel)
theorem kit_seq {K : PySem.W.Frag} {H : Hp} {v : V} {d : PyData} (h : Dv H v d) : PySem.W.kitAny K (.type (tyD d)) [.type "list", .type "tuple"] = some (isSeqD d) := by
  cases h with
  | non => exact kitAny_cons (b := false) (kit_ty (a := "NoneType") (b := "list") (r := false) (by decide +kernel)) (fun _ => kitAny_cons (b := false) (kit_ty (a := "NoneType") (b := "tuple") (r := false) (by decide +kernel)) (fun _ => kitAny_nil) (fun z => nomatch z)) (fun z => nomatch z)
  | bl b => exact kitAny_cons (b := false) (kit_ty (a := "bool") (b := "list") (r := false) (by decide +kernel)) (fun _ => kitAny_cons (b := false) (kit_ty (a := "bool") (b := "tuple") (r := false) (by decide +kernel)) (fun _ => kitAny_nil) (fun z => nomatch z)) (fun z => nomatch z)
  | int i => exact kitAny_cons (b := false) (kit_ty (a := "int") (b := "list") (r := false) (by decide +kernel)) (fun _ => kitAny_cons (b := false) (kit_ty (a := "int") (b := "tuple") (r := false) (by decide +kernel)) (fun _ => kitAny_nil) (fun z => nomatch z)) (fun z => nomatch z)
  | str x => exact kitAny_cons (b := false) (kit_ty (a := "str") (b := "list") (r := false) (by decide +kernel)) (fun _ => kitAny_cons (b := false) (kit_ty (a := "str") (b := "tuple") (r := false) (by decide +kernel)) (fun _ => kitAny_nil) (fun z => nomatch z)) (fun z => nomatch z)
  | lst e r => exact kitAny_cons (b := true) (kit_ty (a := "list") (b := "list") (r := true) (by decide +kernel)) (fun z => nomatch z) fun _ => rfl
  | tup e r => exact kitAny_cons (b := false) (kit_ty (a := "tuple") (b := "list") (r := false) (by decide +kernel)) (fun _ => kitAny_cons (b := true) (kit_ty (a := "tuple") (b := "tuple") (r := true) (by decide +kernel)) (fun z => nomatch z) fun _ => rfl) (fun z => nomatch z)
/-! ### the names of the module and the built-ins -/
structure Blt (mg : Str → Option Value) : Prop where
  isinstance : mg "isinstance" = none
  int : mg "int" = none
  bool : mg "bool" = none
  list : mg "list" = none
  tuple : mg "tuple" = none
  len : mg "len" = none
  enumerate : mg "enumerate" = none
  sorted : mg "sorted" = none
  set : mg "set" = none
  all : mg "all" = none
  min : mg "min" = none
  max : mg "max" = none
  range : mg "range" = none
  abs : mg "abs" = none
  repr : mg "repr" = none
  super : mg "super" = none
section
variable {P : Program} {w : World} {K : PySem.W.Frag} {mg : Str → Option Value} {base : Heap}
theorem boot_int : bootBuiltins "int" = some (.type "int") := by decide +kernel
theorem boot_bool : bootBuiltins "bool" = some (.type "bool") := by decide +kernel
theorem boot_list : bootBuiltins "list" = some (.type "list") := by decide +kernel
theorem boot_tuple : bootBuiltins "tuple" = some (.type "tuple") := by decide +kernel
theorem boot_isi : bootBuiltins "isinstance" = some (.builtin "isinstance") := by decide +kernel
/-! ### is_integer, is_number, is_sequence -/
def spIsInt : Sp := fun vs H Q _ => ∃ v d, vs = [v] ∧ Dv H v d ∧ Q (.bl (isIntD d)) H
theorem scIsInt : FnScope ["value"] ["value"] (defScope sIsInt) := ⟨rfl, rfl, rfl, by decide +kernel, rfl, by decide +kernel, by decide +kernel⟩
theorem ok_is_integer {f : Addr} {fd : FuncData} (F : FnP K "is_integer" sIsInt [] f fd) (B : Blt mg) : FnOk P w K mg base CX0 1 f fd ["value"] spIsInt := by
  refine F.ok scIsInt (fun vs H Q E h => ?_) (fun cdv A outer s H vs Q E hr h => ?_)
  · obtain ⟨v, d, rfl, _⟩ := h
    rfl
  · obtain ⟨v, d, rfl, hv, k⟩ := h
    refine ⟨_, pss_one (ps_ret (pe_and (pe_callB call_isi (by rfl) B.isinstance boot_isi (pa_cons (pv 0) (pa_cons (pe_bltn (v := .ty "int") (by rfl) B.int boot_int rfl) pa_nil)))
      (pe_one (pe_not (pe_callB call_isi (by rfl) B.isinstance boot_isi (pa_cons (pv 0) (pa_cons (pe_bltn (v := .ty "bool") (by rfl) B.bool boot_bool rfl) pa_nil))))))), ?_⟩
    refine ⟨_, rfl, v, .ty "int", _, _, _, rfl, .ty _, hv.ty, kit_int hv, _, rfl, ?_⟩
    have h2 := kit_bool (K := K) hv
    have h3 : TyX K H v (.type (tyD d)) := hv.ty
    cases hv with
    | int i => exact iteT ⟨_, rfl, _, .ty "bool", _, _, _, rfl, .ty _, h3, h2, _, rfl, k⟩
    | bl i => exact iteT ⟨_, rfl, _, .ty "bool", _, _, _, rfl, .ty _, h3, h2, _, rfl, k⟩
    | _ => exact iteF k
/-- an integer from 0 on -/
def isNumD : PyData → Bool
  | .int i => decide (0 ≤ i)
  | _ => false
def spIsNum : Sp := fun vs H Q _ => ∃ v d, vs = [v] ∧ Dv H v d ∧ Q (.bl (isNumD d)) H
theorem scIsNum : FnScope ["value"] ["value"] (defScope sIsNum) := ⟨rfl, rfl, rfl, by decide +kernel, rfl, by decide +kernel, by decide +kernel⟩
theorem ok_is_number {f fI : Addr} {fd fdI : FuncData} (F : FnP K "is_number" sIsNum [] f fd) (FI : FnP K "is_integer" sIsInt [] fI fdI) (gI : mg "is_integer" = some (.ref fI)) (B : Blt mg) : FnOk P w K mg base CX0 2 f fd ["value"] spIsNum := by
  have GI : FnOk P w K mg base CX0 1 fI fdI ["value"] spIsInt := ok_is_integer FI B
  have bI : Binds K fdI ["value"] [] := FI.bindsN fun _ _ _ _ _ _ us hl => match us, hl with | [_], _ => rfl
  refine F.ok scIsNum (fun vs H Q E h => ?_) (fun cdv A outer s H vs Q E hr h => ?_)
  · obtain ⟨v, d, rfl, _⟩ := h
    rfl
  · obtain ⟨v, d, rfl, hv, k⟩ := h
    refine ⟨_, pss_one (ps_ret (pe_and (pe_call GI hr (by rfl) gI FI.kp bI .nil pass0 (pa_cons (pv 0) pa_nil)) (pe_one (pe_cmpR op_ge (pv 0) pe_int (nomark _))))), ?_⟩
    refine ⟨_, rfl, v, d, rfl, hv, _, rfl, ?_⟩
    cases hv with
    | int i => exact iteT ⟨_, rfl, i, 0, rfl, rfl, k⟩
    | _ => exact iteF k
def spIsSeq : Sp := fun vs H Q _ => ∃ v d, vs = [v] ∧ Dv H v d ∧ ∀ H', Same H H' → Q (.bl (isSeqD d)) H'
theorem scIsSeq : FnScope ["value"] ["value"] (defScope sIsSeq) := ⟨rfl, rfl, rfl, by decide +kernel, rfl, by decide +kernel, by decide +kernel⟩
theorem ok_is_sequence {f : Addr} {fd : FuncData} (F : FnP K "is_sequence" sIsSeq [] f fd) (B : Blt mg) : FnOk P w K mg base CX0 1 f fd ["value"] spIsSeq := by
  refine F.ok scIsSeq (fun vs H Q E h => ?_) (fun cdv A outer s H vs Q E hr h => ?_)
  · obtain ⟨v, d, rfl, _⟩ := h
    rfl
  · obtain ⟨v, d, rfl, hv, k⟩ := h
    refine ⟨_, pss_one (ps_ret (pe_callB call_isiT (by rfl) B.isinstance boot_isi (pa_cons (pv 0) (pa_cons (pe_tup (pa_cons (pe_bltn (v := .ty "list") (by rfl) B.list boot_list rfl) (pa_cons (pe_bltn (v := .ty "tuple") (by rfl) B.tuple boot_tuple rfl) pa_nil))) pa_nil)))), ?_⟩
    refine ⟨_, rfl, (by show 2 ≤ sizeLine; decide), fun p hp => ?_⟩
    exact ⟨v, p, [.ty "list", .ty "tuple"], _, [.type "list", .type "tuple"], _, rfl, upd_same, .cons (.ty _) (.cons (.ty _) .nil), (hv.ext (Sub.new hp)).ty, kit_seq hv, k _ (Same.new hp)⟩
end
end K7
end

section
set_option Elab.async false
set_option linter.all false
set_option maxRecDepth 100000
set_option maxHeartbeats 4000000
/-! The own errors: an __init__ that says super().__init__(text), then stores one field; over HallError, over Exception. -/
namespace PySem
namespace ErrX
open PySem.W PySem.Calls PyProof.Rows
/-- the mro of Exception -/
abbrev exMro : List Value := [.type "Exception", .type "BaseException", .type "object"]
/-- the form of such an __init__ (a statement of the class's body) -/
structure InitForm (st : Stmt) (fn : Str) : Prop where
  body : ∃ (zt : Str) (j : Nat) (a1 a2 a3 a4 a5 a6 b1 b2 b3 b4 : Pos), L2.defBody st =
    [.Expr (.Call (.Attribute (.Call (.Name "super" a1) [] [] a2) "__init__" a3) [.Constant (.str zt) j a4] [] a5) a6,
     .Assign [.Attribute (.Name "self" b1) fn b2] (.Name fn b3) b4] ∧
    (∀ (q : Str) (L f : Addr) (cd : Value) (cc : Addr), ∃ pl : Sem Bool, eval (.Call (.Attribute (.Call (.Name "super" a1) [] [] a2) "__init__" a3) [.Constant (.str zt) j a4] [] a5) (envX q (L2.defScope st) L f cd [("__class__", cc)]) = (do
      let ov ← attributeBase (.Call (.Name "super" a1) [] [] a2) "__init__" (envX q (L2.defScope st) L f cd [("__class__", cc)]) (eval (.Call (.Name "super" a1) [] [] a2) (envX q (L2.defScope st) L f cd [("__class__", cc)]))
      standAt a3.atName
      let (g, first) ← holding [ov] (getMethod ov "__init__" pl)
      callWith a5 g first (backTo a5 (starEach [.Constant (.str zt) j a4] (envX q (L2.defScope st) L f cd [("__class__", cc)]))) [])) ∧
    (∀ (q : Str) (L f : Addr) (cd : Value) (cc : Addr), swapsWith (.Call (.Attribute (.Call (.Name "super" a1) [] [] a2) "__init__" a3) [.Constant (.str zt) j a4] [] a5) none a6.line (envX q (L2.defScope st) L f cd [("__class__", cc)]) = pure false) ∧
    (∀ (q : Str) (L f : Addr) (cd : Value) (cc : Addr), swapsWith (.Name fn b3) (some (.Attribute (.Name "self" b1) fn b2)) b4.line (envX q (L2.defScope st) L f cd [("__class__", cc)]) = pure false)
  quiet : ∀ (q : Str) (L f : Addr) (cd : Value) (cc : Addr), interactive (envX q (L2.defScope st) L f cd [("__class__", cc)]) = false
  arg : ∃ ar : Arg, ((L2.defArgs st).posonlyargs ++ (L2.defArgs st).args).head? = some ar ∧ ar.arg = "self"
  kind : (L2.defScope st).kind = .function
  co : (L2.defScope st).isCoroutine = false
  gen : (L2.defScope st).isGenerator = false
  nocell : ∀ x ∈ (L2.defScope st).names, x.2 ≠ .cell
  sup : (L2.defScope st).names.lookup ("super" : Str) = some .globalImplicit
  cls : (L2.defScope st).names.lookup ("__class__" : Str) = some .free
  self : (L2.defScope st).names.lookup ("self" : Str) = some .local
  fld : (L2.defScope st).names.lookup fn = some .local
  nd : (fn == ("__debug__" : Str)) = false
  ns : (fn == ("self" : Str)) = false
/-- what the written part says of the class x at C -/
structure OwnTxt (P : Program) (K : Frag) (mg : Str → Option Value) (x : Str) (st : Stmt) (fn : Str) (C fI : Addr) : Prop where
  form : InitForm st fn
  gC : mg x = some (.ref C)
  gS : mg "super" = none
  kC : keepIn K (.ref C) = true
  ini : excInitIn K C exMro "Exception.__new__" = true
  over : excOver K C exMro = true
  sa : findIn K (.ref C) "__setattr__" = some (some (.builtin "object.__setattr__"))
  ga : findIn K (.ref C) "__getattribute__" = some (some (.builtin "BaseException.__getattribute__"))
  gg : findIn K (.ref C) "__getattr__" = some none
  noN : findIn K (.ref C) fn = some none
  iC : findIn K (.ref C) "__init__" = some (some (.ref fI))
  tC : typeIn K (.ref fI) = some (.type "function")
  exC : subIn K (.ref C) (.type "BaseException") = some true
  exE : subIn K (.ref C) (.type "Exception") = some true
  tyC : typeIn K (.ref C) = some (.type "type")
  hdC : hasDictIn K C = true
  mroC : mroIn K C (.ref C) = some true
  taker : takerIn K C fn = some none
  sup : ks_superIn K C C "__init__" = some (some (.builtin "Exception.__init__"))
  opq : nsIn K cStatics "thirdparty.any" = some none
  top : (P.main.scope.names.lookup ("super" : Str)).isSome = false
  fn : ∃ (qual : Str) (oc : Value) (od : Option Addr) (dV kV doc pm : Value) (an : Option Addr) (ct : Value) (osl : Array (Option Value)) (cc cda : Addr) (cl : Value) (cld : Option Addr) (csl : Array (Option Value)) (ccl : Value) (cdd : Option Addr) (ccs : Array (Option Value)) (vs : Array Value) (file : Str) (tf : Tok),
    K.lookup fI = some ⟨oc, od, .func (fnX "__init__" qual (L2.defArgs st) (L2.defBody st) (L2.defScope st) [("__class__", cc)] dV kV doc pm an (.ref cda) ct), osl⟩ ∧ codeIn K (.ref cda) qual = true ∧
    K.lookup cc = some ⟨cl, cld, .cell (some (.ref C)), csl⟩ ∧ K.lookup cda = some ⟨ccl, cdd, .fields vs, ccs⟩ ∧ vs[2]? = some (.str file tf) ∧ ((P.main.file : Str) == file) = true ∧
    ∀ (s : Shared) (a : Addr) (v : Value), K.In s.heap → BindsTo s (fnX "__init__" qual (L2.defArgs st) (L2.defBody st) (L2.defScope st) [("__class__", cc)] dV kV doc pm an (.ref cda) ct) ⟨[.ref a, v], []⟩ [("self", .ref a), (fn, v)]
theorem one_line (v : Value) : [v].length ≤ sizeLine := by
  rw [sizeLine_eq]
  exact (by decide : 1 ≤ 16777216)
/-- what __init__ leaves of a fresh exception at x -/
structure InitEnd (h h' : Heap) (x C dx t1 : Addr) (fn : Str) (v : Value) : Prop where
  keep : ∀ b o, b ≠ x → h.get? b = some o → h'.get? b = some o
  obj : h'.get? x = some { cls := .ref C, dict := some dx, data := .fields #[.ref t1, .none, .none, .none, .bool false, .none] }
  dbig : h.objs.size ≤ dx
  dne : dx ≠ x
  ns : h'.Ns1 dx (fun y => if y = fn then some v else none)
/-- a made error -/
structure OwnMade (h h' : Heap) (e C d : Addr) (fn : Str) (v : Value) : Prop where
  keep : ∀ b o, h.get? b = some o → h'.get? b = some o
  new : h.objs.size ≤ e
  obj : ∃ oe vs, h'.get? e = some oe ∧ oe.cls = .ref C ∧ oe.dict = some d ∧ oe.data = .fields vs ∧ vs[1]? = some .none
  dbig : h.objs.size ≤ d
  dne : d ≠ e
  ns : h'.Ns1 d (fun y => if y = fn then some v else none)
section
variable {prog : Program} {w : World} {A : Around} {E : Value → Shared → Prop} {R : Result → Shared → Prop} {s : Shared} {K : Frag} {mg : Str → Option Value} {C fI : Addr} {x fn : Str} {st : Stmt} {base : Heap}
/-- self.fn = v of an exception without a dict -/
theorem osa_first {hp : Heap} {g : Array GenState} {d : Drawn} {t : Nat} {os : OsState} {tk : Tok} {v : Value} {xa t1 : Addr} (T : OwnTxt prog K mg x st fn C fI) (X : K.In hp) (hx : hp.get? xa = some (excObj C t1 none .none))
    (hq : ∀ h' tk' dx, InitEnd hp h' xa C dx t1 fn v → R (.ok (.ret .none)) ⟨h', g, d, tk', os⟩) :
    codeAny (model prog w) A (.call (.builtin "object.__setattr__") ⟨[.ref xa, .str fn tk, v], []⟩) R ⟨hp, g, d, t, os⟩ := by
  refine osa_openX (od := none) (s := ⟨hp, g, d, t, os⟩) F.store_Exception X ⟨hx, rfl, rfl, trivial⟩ T.over T.taker fun b => ?_
  obtain ⟨cd, hc, hd'⟩ := any_some T.hdC
  have hxs : xa < hp.objs.size := Heap.lt_size hx
  refine wpAny_bind (wpAny_pure (wpAny_bind (instanceDict_exc (s := ⟨hp, g, d, t, os⟩) hx (looks_clsIn X hc) hd' ?_)))
  show wpAny _ _ (Builtin.ObjectAttr.storeInDict hp.objs.size (.str fn tk) fn v) _ _ _
  refine HandSPX.store_in_new ?_ fun h' tk' hn' hs => ?_
  · exact ⟨_, #[], _, (Heap.get?_update_ne _ _ _ _ (Nat.ne_of_gt hxs)).trans (Heap.get?_push_at rfl rfl), rfl, fun e he => absurd he (by simp), fun _ => rfl⟩
  · have hx1 : (hp.push (dictOf [] 0)).get? xa = some (excObj C t1 none .none) := Heap.get?_push_of_some _ hx
    refine hq h' tk' hp.objs.size ⟨fun b o hb ho => ?_, ?_, Nat.le_refl _, Nat.ne_of_gt hxs, hn'⟩
    · exact (hs.2 b (Nat.ne_of_lt (Heap.lt_size ho))).trans ((Heap.get?_update_ne _ _ _ _ hb).trans (Heap.get?_push_of_some _ ho))
    · exact (hs.2 xa (Nat.ne_of_lt hxs)).trans (Heap.get?_update_self _ hx1 rfl)
theorem own_init (T : OwnTxt prog K mg x st fn C fI) {xa t0 : Addr} {v : Value} (MD : L2.Mod K mg base) (bs : ∀ b o, base.get? b = some o → s.heap.get? b = some o) (hx : s.heap.get? xa = some (HandSPX.excO C t0)) (hnx : K.lookup xa = none) (hroom : A.depth < recursionLimit)
    (hq : ∀ h' tk dx t1, InitEnd s.heap h' xa C dx t1 fn v → R (.ok (.ret .none)) { s with heap := h', toks := tk }) :
    codeAny (model prog w) A (.call (.ref fI) ⟨[.ref xa, v], []⟩) R s := by
  obtain ⟨qual, oc, od, dV, kV, doc, pm, an, ct, osl, cc, cda, cl, cld, csl, ccl, cdd, ccs, vs, file, tf, hfI, hcd, hcc, hcda, hvs, hfile, hbind⟩ := T.fn
  obtain ⟨zt, j, a1, a2, a3, a4, a5, a6, b1, b2, b3, b4, hbody, hmeth, hsw1, hsw2⟩ := T.form.body
  obtain ⟨ar, har, hself⟩ := T.form.arg
  rw [hbody] at hfI hbind
  have X : K.In s.heap := MD.kin.keeps bs
  have hxC : xa ≠ C := fun z => by
    obtain ⟨nm, N, qn, bs', bm, hdct, sn, sub, ab, col, dd, k0, k1, k2, k3, k5, hC, hT⟩ := excInit_of (K := K) (h := s.heap) X T.ini
    rw [z, hC] at hx
    cases hx
  refine ks_codeAny_call_defAt (fd := fnX "__init__" qual (L2.defArgs st) [.Expr (.Call (.Attribute (.Call (.Name "super" a1) [] [] a2) "__init__" a3) [.Constant (.str zt) j a4] [] a5) a6, .Assign [.Attribute (.Name "self" b1) fn b2] (.Name fn b3) b4] (L2.defScope st) [("__class__", cc)] dV kV doc pm an (.ref cda) ct) (body := [.Expr (.Call (.Attribute (.Call (.Name "super" a1) [] [] a2) "__init__" a3) [.Constant (.str zt) j a4] [] a5) a6, .Assign [.Attribute (.Name "self" b1) fn b2] (.Name fn b3) b4]) (binds := [("self", .ref xa), (fn, v)]) hroom (X _ _ hfI) rfl
    (MD.nolimit.keeps bs) (codeRec_of X hcd) rfl (hbind s xa v X) T.form.nocell (fun y hy => ?_) (fun h1 hns hk1 => ?_) T.form.co T.form.gen T.form.kind
  · rcases List.mem_cons.mp hy with e | hy
    · rw [e]
      exact T.form.self
    · rw [List.mem_singleton.mp hy]
      exact T.form.fld
  show PySem.wpAt _ (A.deeper (envX qual (L2.defScope st) s.heap.objs.size fI (.ref cda) [("__class__", cc)])) (.func _ (envX qual (L2.defScope st) s.heap.objs.size fI (.ref cda) [("__class__", cc)])) (execs _ (envX qual (L2.defScope st) s.heap.objs.size fI (.ref cda) [("__class__", cc)])) _
    (fun e s' => wpAny (model prog w) (A.deeper (envX qual (L2.defScope st) s.heap.objs.size fI (.ref cda) [("__class__", cc)])) (leaving (envX qual (L2.defScope st) s.heap.objs.size fI (.ref cda) [("__class__", cc)]) e) (fun _ s'' => R (.error e) s'') (fun e' s'' => R (.error e') s'') s') _
  have bs1 : ∀ b o, base.get? b = some o → h1.get? b = some o := fun b o e => hk1 b o (bs b o e)
  have X1 : K.In h1 := MD.kin.keeps bs1
  have hx1 := hk1 _ _ hx
  obtain ⟨cd, hcC, hdD⟩ := any_some T.hdC
  obtain ⟨oD, hD1, hD2⟩ : ∃ oD, h1.get? C = some oD ∧ oD.data = .cls cd := by
    unfold clsIn at hcC
    split at hcC
    · rename_i c d cd' sl ho
      cases hcC
      exact ⟨_, X1 _ _ ho, rfl⟩
    · cases hcC
  have hself1 : (fun y => ([("self", Value.ref xa), (fn, v)] : List (Str × Value)).reverse.lookup y) ar.arg = some (.ref xa) := by
    rw [hself]
    show List.lookup ("self" : Str) [(fn, v), (("self" : Str), Value.ref xa)] = some (.ref xa)
    have e1 : (("self" : Str) == fn) = false := by
      have e2 := T.form.ns
      rw [Bool.eq_false_iff] at e2 ⊢
      exact fun z => e2 (beq_iff_eq.mpr (beq_iff_eq.mp z).symm)
    rw [List.lookup_cons, e1]
    simp [List.lookup]
  have hfld1 : (fun y => ([("self", Value.ref xa), (fn, v)] : List (Str × Value)).reverse.lookup y) fn = some v := by
    show List.lookup fn [(fn, v), (("self" : Str), Value.ref xa)] = some v
    rw [List.lookup_cons, beq_self_eq_true]
  obtain ⟨mb, hmb, hmbb⟩ := MD.blt
  obtain ⟨nm, N, qn, bs', bm, hdct, sn, sub, ab, col, dd, k0, k1, k2, k3, k5, hC, hT⟩ := excInit_of (K := K) (h := base) MD.kin T.ini
  have isE : Looks (model prog w) h1 (isInstance (.ref xa) (.type "Exception")) true :=
    (show InstAt h1 xa (HandSPX.excO C t0) C none from ⟨hx1, rfl, rfl, trivial⟩).type.andThen (looks_subIn X1 T.exE)
  -- super().__init__(text)
  obtain ⟨pl, hpl⟩ := hmeth qual s.heap.objs.size fI (.ref cda) cc
  refine ks_wpAt_execs_cons (ks_wpAt_Expr_any (ks_wpAt_MethodCall ?_ hpl) (T.form.quiet _ _ _ _ _) (hsw1 _ _ _ _ _))
  refine ks_wpAt_super_base (env := envX qual (L2.defScope st) s.heap.objs.size fI (.ref cda) [("__class__", cc)]) T.form.sup T.form.cls rfl rfl (X1 _ _ hfI) rfl har rfl (X1 _ _ hcda) rfl hvs hfile T.top ?_
  refine ks_loadName_global T.form.kind T.form.sup (loadGlobal_builtin (MD.glob.keeps bs1) T.gS (hmb.keeps bs1) ((hmbb _ (by decide +kernel)).trans (by decide +kernel)) ⟨rfl, ?_⟩)
  refine wpAny_loadName_free T.form.kind T.form.cls rfl ⟨_, X1 _ _ hcc, rfl⟩ ?_
  refine wpAny_loadName_local T.form.kind (by show (L2.defScope st).names.lookup ar.arg = _; rw [hself]; exact T.form.self) hns hself1 ?_
  refine ks_wpAny_isType_cls hD1 hD2 ⟨rfl, ?_⟩
  refine ks_wpAny_call_super hD1 hD2 hx1 rfl (fun c z => by cases z) (looks_mroIn X1 T.mroC) fun h2 hso hk2 => ?_
  have bs2 : ∀ b o, base.get? b = some o → h2.get? b = some o := fun b o e => hk2 b o (bs1 b o e)
  have X2 : K.In h2 := MD.kin.keeps bs2
  refine ESX.getMethod_super hso (looks_opaque X2 T.opq) (l₀ := cd.mro) (fun A Q E s k q => wpAny_bind ((looks_clsIn X2 hcC) A _ E s k (wpAny_pure q))) rfl X2 ?_ hxC (by decide +kernel) (isE.keeps hk2) ?_
  · have e := T.sup
    unfold ks_superIn at e
    rw [hcC] at e
    exact e
  refine ESX.callWith_bound (x := xa) ?_
  refine Calls.spliced_cons (Calls.Constant_str (k := j) (pos := a4) (Calls.spliced_nil ?_))
  have hk3 : ∀ b o, h2.get? b = some o → (h2.push (ESX.bw xa)).get? b = some o := fun b o e => Heap.get?_push_of_some _ e
  have bs3 : ∀ b o, base.get? b = some o → (h2.push (ESX.bw xa)).get? b = some o := fun b o e => hk3 b o (bs2 b o e)
  refine ⟨Heap.get?_push_at rfl rfl, ?_⟩
  refine ESX.call_bw (bs3 _ _ hC) (hk3 _ _ (hk2 _ _ hx1)) (Heap.get?_push_at rfl rfl) (one_line _) fun h4 t1 hk4 hx4 => ?_
  -- self.fn = v
  have hk5 : ∀ b o, b ≠ xa → s.heap.get? b = some o → h4.get? b = some o := fun b o hb e => hk4 b o hb (hk3 _ _ (hk2 _ _ (hk1 _ _ e)))
  have X4 : K.In h4 := fun a o e => hk5 a o (fun z => by rw [z, hnx] at e; cases e) (X a o e)
  have hns4 : h4.Ns s.heap.objs.size (fun x => ([("self", Value.ref xa), (fn, v)] : List (Str × Value)).reverse.lookup x) := by
    obtain ⟨o, es, ep, e, r⟩ := hns
    exact ⟨o, es, ep, hk4 _ _ (Nat.ne_of_gt (Heap.lt_size hx)) (hk3 _ _ (hk2 _ _ e)), r⟩
  refine PySem.wpAt_of_wpAny ?_
  refine wpAny_execs_cons (plainObj_wpAny_Assign_Attribute ?_ (hsw2 _ _ _ _ _))
  refine ESX.ldL (v := v) hns4 hfld1 (ESX.ldL (v := .ref xa) hns4 (by have e := hself1; rw [hself] at e; exact e) ?_ T.form.kind T.form.self rfl) T.form.kind T.form.fld T.form.nd
  refine set_plain X4 (ox := HandSPX.excO C t1) (od := none) ⟨hx4, rfl, rfl, trivial⟩ T.sa ?_
  refine osa_first T X4 hx4 fun h6 tk6 dx I => ?_
  exact wpAny_execs_nil (hq h6 tk6 dx t1 ⟨fun b o hb e => I.keep b o hb (hk5 b o hb e), I.obj, Nat.le_trans (Nat.le_trans (Nat.le_of_lt (Heap.lt_size hns4.choose_spec.choose_spec.choose_spec.1)) (Nat.le_refl _)) I.dbig, I.dne, I.ns⟩)
theorem own_made (T : OwnTxt prog K mg x st fn C fI) {v : Value} (MD : L2.Mod K mg base) (bs : ∀ b o, base.get? b = some o → s.heap.get? b = some o) (hroom : A.depth + 1 < recursionLimit)
    (hq : ∀ h' tk e d, OwnMade s.heap h' e C d fn v → R (.ok (.ret (.ref e))) { s with heap := h', toks := tk }) :
    codeAny (model prog w) A (.call (.ref C) ⟨[v], []⟩) R s := by
  have X : K.In s.heap := MD.kin.keeps bs
  obtain ⟨nm, N, qn, bs', bm, hdct, sn, sub, ab, col, dd, k0, k1, k2, k3, k5, hC, hT⟩ := excInit_of (K := K) (h := s.heap) X T.ini
  obtain ⟨hp, g, dr, tk, os⟩ := s
  have k : ∀ b o, hp.get? b = some o → ((hp.push (kdv_tup [v])).push (HandSPX.excO C hp.objs.size)).get? b = some o := fun b o e => Heap.get?_push_of_some _ (Heap.get?_push_of_some _ e)
  have hget : ((hp.push (kdv_tup [v])).push (HandSPX.excO C hp.objs.size)).get? (hp.objs.size + 1) = some (HandSPX.excO C hp.objs.size) := by heap_get
  have hnx : K.lookup (hp.objs.size + 1) = none := by
    cases e : K.lookup (hp.objs.size + 1) with
    | none => rfl
    | some o =>
      have z : hp.get? (hp.objs.size + 1) = some o := X _ _ e
      exact absurd (Nat.lt_of_succ_lt (Heap.lt_size z)) (Nat.lt_irrefl _)
  refine HandSPX.call_own F.excBase_Exception hT hC (looks_findIn X T.iC) (fun self => bind_fn X self T.tC) (one_line v) ?_
  refine own_init (s := ⟨(hp.push (kdv_tup [v])).push (HandSPX.excO C hp.objs.size), g, dr, tk, os⟩) T MD (fun b o e => k b o (bs b o e)) hget hnx ?_ fun h' tk' dx t1 I => ?_
  · show A.depth + 1 < recursionLimit
    exact hroom
  · have old : ∀ b o, hp.get? b = some o → h'.get? b = some o := fun b o e => I.keep b o (Nat.ne_of_lt (Nat.lt_succ_of_lt (Heap.lt_size e))) (k b o e)
    have z : hp.objs.size + 1 + 1 ≤ dx := by
      have q := I.dbig
      rw [Heap.size_push, Heap.size_push] at q
      exact q
    exact ⟨rfl, hq h' tk' (hp.objs.size + 1) dx ⟨old, Nat.le_succ _, ⟨_, _, I.obj, rfl, rfl, rfl, rfl⟩, Nat.le_trans (Nat.le_trans (Nat.le_succ _) (Nat.le_succ _)) z, I.dne, I.ns⟩⟩
end
end ErrX
end PySem
namespace L2
open PySem PySem.Spec PyProof.Rows
theorem relO_one {v : V} {v' : Value} (r : RelV v v') (fn f : Str) : RelO (List.lookup f [(fn, v)]) (if f = fn then some v' else none) := by
  by_cases hw : f = fn
  · rw [if_pos hw, List.lookup_cons, beq_iff_eq.mpr hw]
    exact r
  · rw [if_neg hw, List.lookup_cons, beq_eq_false_iff_ne.mpr hw]
    trivial
section
variable {X : Cx} {C fI : Addr} {x fn : Str} {st : Stmt}
/-- X(e), X an own error with one field -/
def tMkOwn (fn : Str) (C : Addr) (ta : TA) : St → Hp → XK → Prop := fun σ H Q => ta σ H fun vs H1 => ∃ v, vs = [v] ∧ ∀ d, H1 d = none → Q (.ref C) (some d) (upd H1 d (.xd [(fn, v)]))
theorem pmk_own1 {a : Expr} {ta : TA} {p pos : Pos} {k : Nat} (T : PySem.ErrX.OwnTxt X.prog X.K X.mg x st fn C fI) (hr : Room k X.A) (ha : PA X [a] ta) (hg : Gl X x) (hdb : (x == ("__debug__" : Str)) = false := by decide)
    (he : starEach (a :: []) X.env = (false, eval a X.env) :: starEach [] X.env := by rfl) (hpl : (backTo pos (starEach [] X.env)).any (·.1) = false := by rfl) :
    PMk X (.Call (.Name x p) [a] [] pos) (tMkOwn fn C ta) := by
  intro pins s σ H Q I h
  refine wpAny_Call_Name_kw (ld_glob I hg T.gC ?_ hdb)
  refine PySem.W.callWith_K (h₀ := X.base) I.ok.mod.kin T.kC (thn (ha.run pos pins s σ H _ I h) fun us s1 hh => ?_) he hpl
  obtain ⟨vs, H1, I1, r1, v, ev, q1⟩ := hh
  subst ev
  refine ⟨I1.kIn, ?_⟩
  cases r1 with
  | cons rv rn =>
    rename_i v' us'
    cases rn
    show wpAny _ _ (call (.ref C) [v']) _ _ _
    have bk := I1.bk
    obtain ⟨hp, g, dr, tk, os⟩ := s1
    refine wpAny_call (PySem.ErrX.own_made T I.ok.mod bk (by have := hr.dp; omega) fun h' tk' e d M => ?_)
    show MkP X pins σ Q (.ref e) ⟨h', g, dr, tk', os⟩
    obtain ⟨oe, fv, hoe, hc, hd, hdat, h1⟩ := M.obj
    have hns := M.ns
    obtain ⟨G', g1, g2⟩ := restrict h' fun b => decide (b ≠ e)
    have gk : ∀ b, b ≠ e → G'.get? b = h'.get? b := fun b hb => g1 b (decide_eq_true hb)
    have ge : G'.get? e = none := g2 e (by simp)
    have old : ∀ b o, hp.get? b = some o → G'.get? b = some o := fun b o q => (gk b (Nat.ne_of_lt (Nat.lt_of_lt_of_le (Heap.lt_size q) M.new))).trans (M.keep b o q)
    have ob : ObjOk X.prog X.w (upd H1 d (.xd [(fn, v)])) G' d (.xd [(fn, v)]) :=
      ⟨_, hns.at (fun o q => (gk d M.dne).trans q), fun f => relO_one rv fn f⟩
    have J : Inv X pins σ (upd H1 d (.xd [(fn, v)])) ⟨G', g, dr, tk', os⟩ := I1.laid (t' := tk') old M.dbig ob
    refine ⟨e, oe, fv, ⟨G', g, dr, tk', os⟩, _, .ref C, some d, rfl, J, fun b o q => ?_, ge, hoe, ⟨hc, hd⟩, hdat, h1, ?_, rfl, I1.bare, raises_own T.exC T.tyC, q1 d (I1.hok.fresh M.dbig)⟩
    · by_cases hb : b = e
      · have q' : G'.get? b = some o := q
        rw [hb, ge] at q'
        cases q'
      · exact (gk b hb).symm.trans q
    · rw [upd_ne (Ne.symm M.dne)]
      exact I1.hok.fresh M.new
/-- raise X(e) -/
def tRaiseOwn (fn : Str) (C : Addr) (W : WX) (ta : TA) : TS := fun _ σ H => tMkOwn fn C ta σ H fun cls d H' => W cls d σ H'
theorem ps_raiseOwn {a : Expr} {ta : TA} {W : WX} {p pos pos2 : Pos} {k : Nat} (hc : X.calm = true) (T : PySem.ErrX.OwnTxt X.prog X.K X.mg x st fn C fI) (hr : Room k X.A) (tk : Takes X W) (ha : PA X [a] ta) (hg : Gl X x) (hdb : (x == ("__debug__" : Str)) = false := by decide)
    (he : starEach (a :: []) X.env = (false, eval a X.env) :: starEach [] X.env := by rfl) (hpl : (backTo pos (starEach [] X.env)).any (·.1) = false := by rfl) :
    PS X (.Raise (some (.Call (.Name x p) [a] [] pos)) none pos2) (tRaiseOwn fn C W ta) := ps_raise hc tk (pmk_own1 T hr ha hg hdb he hpl)
/-- e.fn, e the exception that the suite holds -/
def tByOwn (fn : Str) (C : Addr) (a : Addr) (cls : Value) (d : Option Addr) (te : TE) : TE := fun σ H Q => te σ H fun y H1 => y = .ref a ∧ cls = .ref C ∧ ∃ (dd : Addr) (v : V), d = some dd ∧ H1 dd = some (.xd [(fn, v)]) ∧ Q v H1
theorem pe_byOwn {a : Addr} {oe : Obj} {cls : Value} {d : Option Addr} {pn : List (Addr × Obj)} {e : Expr} {te : TE} {pos : Pos} (T : PySem.ErrX.OwnTxt X.prog X.K X.mg x st fn C fI) (hz : Zc cls d oe) (hf : ∃ vs, oe.data = .fields vs) (he : PE (X.suite a ((a, oe) :: pn)) e te)
    (hb : attributeBase e fn X.env (eval e X.env) = eval e X.env := by rfl) :
    PE (X.suite a ((a, oe) :: pn)) (.Attribute e fn pos) (tByOwn fn C a cls d te) := by
  refine ⟨fun pins s σ H Q I h => ?_⟩
  refine attr_of hb (thn (he.run pins s σ H _ I h) fun u s1 hh => ?_)
  obtain ⟨y, H1, I1, rx, ex, ec, dd, v, ed, ea, q⟩ := hh
  subst ex
  obtain rfl : u = Value.ref a := rx
  subst ec
  subst ed
  obtain ⟨ha, _⟩ := I1.pin (a, oe) (List.mem_append_left _ List.mem_cons_self)
  obtain ⟨vs, hd⟩ := hf
  have hx : ObjOk X.prog X.w H1 s1.heap dd (.xd [(fn, v)]) := I1.hok dd _ ea
  obtain ⟨mA, hns, hr⟩ := hx
  obtain ⟨od, ho, hl⟩ := lookIn_ns hns
  have l : List.lookup fn [(fn, v)] = some v := by rw [List.lookup_cons, beq_self_eq_true]
  obtain ⟨u, hu, ru⟩ := RelO.some_of (v := v) (o := mA fn) (by rw [← l]; exact hr fn)
  have J : PySem.W.InstAt s1.heap a oe C (some od) := ⟨ha, hz.1, by unfold PySem.W.notCls; rw [hd], by rw [hz.2]; exact ho⟩
  exact HandSPX.exc_get I1.kIn J T.ga T.gg T.exC (PySem.W.findObj_own T.hdC T.noN rfl (by rw [hl, hu])) (handed_of ru) ⟨v, H1, I1.tok _, ru, q⟩
end
end L2
namespace K7
open PySem L2
abbrev sE1 : Stmt := inClass (top 2) 0
abbrev sE2 : Stmt := inClass (top 3) 0
theorem form1 : PySem.ErrX.InitForm sE1 "at" where
  body := ⟨_, _, _, _, _, _, _, _, _, _, _, _, rfl, fun _ _ _ _ _ => ⟨_, rfl⟩, fun _ _ _ _ _ => rfl, fun _ _ _ _ _ => rfl⟩
  quiet := fun _ _ _ _ _ => rfl
  arg := ⟨_, rfl, rfl⟩
  kind := rfl
  co := rfl
  gen := rfl
  nocell := by decide +kernel
  sup := rfl
  cls := rfl
  self := rfl
  fld := rfl
  nd := by decide +kernel
  ns := by decide +kernel
theorem form2 : PySem.ErrX.InitForm sE2 "word" where
  body := ⟨_, _, _, _, _, _, _, _, _, _, _, _, rfl, fun _ _ _ _ _ => ⟨_, rfl⟩, fun _ _ _ _ _ => rfl, fun _ _ _ _ _ => rfl⟩
  quiet := fun _ _ _ _ _ => rfl
  arg := ⟨_, rfl, rfl⟩
  kind := rfl
  co := rfl
  gen := rfl
  nocell := by decide +kernel
  sup := rfl
  cls := rfl
  self := rfl
  fld := rfl
  nd := by decide +kernel
  ns := by decide +kernel
end K7
end

section
set_option Elab.async false
set_option linter.all false
set_option maxRecDepth 100000
set_option maxHeartbeats 4000000
/-! try with two clauses that name the error; a small kit of further rules. -/
namespace L2
open PySem PySem.Spec PyProof.Rows
section
variable {X : Cx} {x1 x2 n : Str} {c1 c2 : Value} {i : Nat} {body su1 su2 : List Stmt} {st1 st2 : Stmt} {np1 np2 pos pos1 pos2 : Pos} {tb : WX → TS} {ts1 ts2 : Addr → Value → Option Addr → TS}
/-- what stands when an error of the body has come to this frame's clauses -/
structure Caught (X : Cx) (pins : List (Addr × Obj)) (σ : St) (H : Hp) (a : Addr) (cls : Value) (d : Option Addr) (B : Heap) (sI s : Shared) : Prop where
  inv : Inv X pins σ H sI
  ground : ∀ b o, sI.heap.get? b = some o → b ∉ frs X.stack → B.get? b = some o
  up : sI.heap.UpToSlots s.heap
  fly : HandSPX.FlyingZ B (X.env :: X.outer) a (Zc cls d) s.heap
  new : H a = none
  os : s.os = sI.os
  bare : AllBare s.gens
theorem Caught.apart {pins : List (Addr × Obj)} {σ : St} {H : Hp} {a : Addr} {cls : Value} {d : Option Addr} {B : Heap} {sI s : Shared} (hf : X.env.frame = some X.env.locals) (c : Caught X pins σ H a cls d B sI s) : a ≠ X.env.locals ∧ a ∉ X.fs := by
  obtain ⟨oe, vs, he, _, hd⟩ := c.fly.there
  have out : a ∉ frs (X.env :: X.outer) := fun hm => by
    obtain ⟨_, o, e, hnf⟩ := c.fly.2.2.1.mem hm
    rw [he] at e
    cases e
    exact hnf _ hd
  refine ⟨fun z => out (List.mem_filterMap.mpr ⟨X.env, List.mem_cons_self, by rw [hf, z]⟩), fun hm => ?_⟩
  obtain ⟨e, h1, h2⟩ := List.mem_filterMap.mp hm
  exact out (List.mem_filterMap.mpr ⟨e, List.mem_cons_of_mem _ h1, h2⟩)
/-- the ends of a suite: the clause's name goes -/
def behind (i : Nat) (D : Ends) : Ends := { nx := fun σ' H' => D.nx (σ'.set i none) H', rt := D.rt, bk := fun σ' H' => D.bk (σ'.set i none) H', ct := fun σ' H' => D.ct (σ'.set i none) H' }
theorem clause_as {hds : List ExceptHandler} {D : Ends} {pins : List (Addr × Obj)} {σ : St} {H : Hp} {a : Addr} {cls : Value} {d : Option Addr} {B : Heap} {sI s : Shared} {b : Bool} (ok : X.Ok) (hf : X.env.frame = some X.env.locals) (hN : X.N.Nodup) (hi : X.N[i]? = some n) (hln : X.env.kindOf n = some .local)
    (hc : Names X x1 c1) (hsu : ∀ (a : Addr) (oe : Obj) (cls : Value) (d : Option Addr) (pn : List (Addr × Obj)), Zc cls d oe → (∃ vs, oe.data = .fields vs) → PSs (X.suite a ((a, oe) :: pn)) (st1 :: su1) (ts1 a cls d))
    (C : Caught X pins σ H a cls d B sI s) (he : PySem.W.exmOne X.K cls c1 = some b) (yes : b = true → ts1 a cls d (behind i D) (σ.set i (some (.ref a))) H)
    (no : b = false → wpAny (model X.prog X.w) X.A (handleBy (.ref a) X.env hds) (SP X pins D) X.xe s) :
    wpAny (model X.prog X.w) X.A (handleBy (.ref a) X.env (.ExceptHandler (some (.Name x1 np1)) (some n) (st1 :: su1) pos1 :: hds)) (SP X pins D) X.xe s := by
  obtain ⟨nL, nF⟩ := C.apart hf
  obtain ⟨oe, vs, h1, hz, hd⟩ := C.fly.there
  have J : Inv X pins σ H s := C.inv.landed C.ground C.fly.1 C.up C.os C.bare
  have S := J.suite h1 hd C.new nL nF
  have LT : PySem.W.Looks (model X.prog X.w) s.heap (typeOf (.ref a)) cls := fun A Q E s1 k q => wpAny_typeOf_ref (k _ _ h1) (by rw [hz.1]; exact q)
  have LM := PySem.W.exm_one (M := model X.prog X.w) J.kIn LT he
  refine wpAny_handleBy_cons (codeAny_handlers_test ?_) (by intro q; cases q)
  have name : ∀ {Q E : Value → Shared → Prop}, Q c1 s → wpAny (model X.prog X.w) (X.A.mark (some (.ref a))) (eval (.Name x1 np1) X.env) Q E s := fun {Q E} q => by
    obtain ⟨hg, hdb, hm | ⟨hm, hv, hn⟩⟩ := hc
    · exact ld_glob (X := X.suite a ((a, oe) :: (X.pn ++ pins))) S hg hm q hdb
    · exact ld_blt (X := X.suite a ((a, oe) :: (X.pn ++ pins))) S hg hm hv q hn hdb
  refine name (LM.here ?_)
  cases b with
  | false => exact no rfl
  | true =>
    refine codeAny_handlers_suite_as (HandSPX.lands_againZ C.fly fun h4 fl4 up4 => ?_)
    obtain ⟨oe4, vs4, he4, hz4, hd4⟩ := fl4.there
    have J4 : Inv X pins σ H { s with heap := h4 } := C.inv.landed C.ground fl4.1 (C.up.trans up4) C.os C.bare
    refine store_ok (X := X.suite a ((a, oe4) :: (X.pn ++ pins))) (v := .ref a) (J4.suite he4 hd4 C.new nL nF) hN hi (.inl hln) rfl (fun s5 S5 => ?_) (.inr hln)
    refine wpAny_mono ((hsu a oe4 cls d (X.pn ++ pins) hz4 ⟨_, hd4⟩).run [] s5 _ H _ S5 (yes rfl)) (fun f s6 r => ?_) fun _ _ z => z.elim
    cases f <;> (first
      | (obtain ⟨σ6, H6, S6, q6⟩ := r; exact gone_ok (S6.unsuite ok) hN hi hln fun s7 J7 => ⟨_, _, J7, q6⟩)
      | (obtain ⟨v6, σ6, H6, S6, r6, q6⟩ := r; exact gone_ok (S6.unsuite ok) hN hi hln fun s7 J7 => ⟨_, _, _, J7, r6, q6⟩))
/-- what two clauses 'except x1 as n', 'except x2 as n' wish of an error of the body; one of them takes it -/
def wTwo (K : PySem.W.Frag) (c1 c2 : Value) (i : Nat) (ts1 ts2 : Addr → Value → Option Addr → TS) (D : Ends) : WX := fun cls d σ H =>
  ∃ b, PySem.W.exmOne K cls c1 = some b ∧ (b = true → ∀ a, H a = none → ts1 a cls d (behind i D) (σ.set i (some (.ref a))) H) ∧
    (b = false → PySem.W.exmOne K cls c2 = some true ∧ ∀ a, H a = none → ts2 a cls d (behind i D) (σ.set i (some (.ref a))) H)
theorem ps_try_two (hs : X.stack = X.env :: X.outer) (hf : X.env.frame = some X.env.locals) (hN : X.N.Nodup) (hi : X.N[i]? = some n) (hln : X.env.kindOf n = some .local) (hc1 : Names X x1 c1) (hc2 : Names X x2 c2)
    (hb : ∀ (W : WX) (pn : List (Addr × Obj)) (xe : Value → Shared → Prop), Takes (X.tr pn xe) W → PassesOwn (model X.prog X.w) X.A X.env xe → PSs (X.tr pn xe) body (tb W))
    (hsu1 : ∀ (a : Addr) (oe : Obj) (cls : Value) (d : Option Addr) (pn : List (Addr × Obj)), Zc cls d oe → (∃ vs, oe.data = .fields vs) → PSs (X.suite a ((a, oe) :: pn)) (st1 :: su1) (ts1 a cls d))
    (hsu2 : ∀ (a : Addr) (oe : Obj) (cls : Value) (d : Option Addr) (pn : List (Addr × Obj)), Zc cls d oe → (∃ vs, oe.data = .fields vs) → PSs (X.suite a ((a, oe) :: pn)) (st2 :: su2) (ts2 a cls d)) :
    PS X (.Try body [.ExceptHandler (some (.Name x1 np1)) (some n) (st1 :: su1) pos1, .ExceptHandler (some (.Name x2 np2)) (some n) (st2 :: su2) pos2] [] [] pos) (fun D σ H => tb (wTwo X.K c1 c2 i ts1 ts2 D) D σ H) := by
  refine ⟨fun pins s σ H D I h => ?_⟩
  have ok := I.ok
  have hfr : X.A.frames = some (X.env :: X.outer) := by rw [ok.frames, hs]
  refine wpAny_Try_except ?_
  let xe : Value → Shared → Prop := fun e s1 => wpAny (model X.prog X.w) X.A (noteFrame e X.env) (fun _ s2 => wpAny (model X.prog X.w) X.A (setFlight e none) (fun _ s3 =>
    wpAny (model X.prog X.w) X.A (handleBy e X.env [.ExceptHandler (some (.Name x1 np1)) (some n) (st1 :: su1) pos1, .ExceptHandler (some (.Name x2 np2)) (some n) (st2 :: su2) pos2]) (SP X pins D) X.xe s3) X.xe s2) X.xe s1
  have tk : Takes (X.tr (X.pn ++ pins) xe) (wTwo X.K c1 c2 i ts1 ts2 D) := fun u s1 xx => by
    obtain ⟨a, B, sI, pins', σ', H', cls, d, rfl, J', nb, up, sky, na, os, ag, b, e1, y1, n1⟩ := xx
    show wpAny (model X.prog X.w) X.A (noteFrame (.ref a) X.env) _ _ _
    refine Sky.land Zc.steady hfr hf (show Sky B (X.env :: X.outer) a (Zc cls d) X.env.locals s1.heap by rw [← hs]; exact sky) fun h3 fl3 up3 => ?_
    have C : Caught X pins σ' H' a cls d B sI { s1 with heap := h3 } := ⟨J'.ofTry ok, nb, up.trans up3, fl3, na, os, ag⟩
    refine clause_as ok hf hN hi hln hc1 hsu1 C e1 (fun z => y1 z a na) fun z => ?_
    obtain ⟨e2, y2⟩ := n1 z
    exact clause_as ok hf hN hi hln hc2 hsu2 C e2 (fun _ => y2 a na) fun z => nomatch z
  refine wpAny_mono ((hb _ (X.pn ++ pins) xe tk PassesOwn.looking).run [] s σ H D (I.toTry _) h) (fun f s1 r => ?_) fun e s1 he => he
  cases f with
  | next =>
    obtain ⟨σ', H', J', q⟩ := r
    exact wpAny_execs_nil ⟨σ', H', J'.ofTry ok, q⟩
  | ret u =>
    obtain ⟨v, σ', H', J', r', q⟩ := r
    exact ⟨v, σ', H', J'.ofTry ok, r', q⟩
  | _ =>
    obtain ⟨σ', H', J', q⟩ := r
    exact ⟨σ', H', J'.ofTry ok, q⟩
end
end L2
end

section
set_option Elab.async false
set_option linter.all false
set_option maxRecDepth 100000
set_option maxHeartbeats 4000000
/-! repr of data; enumerate of a tuple; set of a list or tuple of ints. -/
namespace L2
open PySem PySem.Spec PyProof.Rows
section
variable {X : Cx}
/-! ### repr -/
def rRepr (K : PySem.W.Frag) : List V → Hp → VK → Prop := fun xs H Q => ∃ (a : Addr) (d : PyData), xs = [.ref a] ∧ Dp K H (.ref a) d ∧ d.showable = true ∧ d.hasDict = false ∧ d.depth ≤ 60 ∧ d.shown.length ≤ sizeLine ∧ Q (.str d.shown) H
theorem cr_repr (hg : X.A.guards = some []) (hu : X.A.units + 64 < cLine) : CallR X (.builtin "repr") (rRepr X.K) := by
  intro pins s σ H xs us Q I r h
  obtain ⟨a, d, rfl, hd, hs, hn, h60, hz, q⟩ := h
  obtain ⟨u, rfl, ru⟩ := vals1 r
  cases (show u = Value.ref a from ru)
  obtain ⟨as, rd⟩ := Dp.reads I d _ _ hd rfl
  exact repr_of_reads' rd hs (fun z => by rw [hn] at z; cases z) hg (by omega) (fun _ _ e => e) (fun h' u tk k => ⟨.str d.shown, H, I.kept k, ⟨_, rfl⟩, q⟩) hz
end
/-! ### enumerate(tuple) -/
theorem new_enumT (l : Addr) (items : Array Value) (n : Nat) (dct : Option Addr) (sl : Array (Option Value)) :
    Meets (Builtin.«enumerate.__new__» ⟨[.type "enumerate", .ref l], []⟩) (fun _ R s => s.heap.get? l = some { cls := .type "tuple", dict := dct, data := .seq items n, slots := sl } ∧
      R (.ok (.ret (.ref (s.heap.objs.size + 1))))
        { s with heap := (s.heap.push { cls := .type "tuple_iterator", data := .fields #[.ref l, .int 0 0] }).push { cls := .type "enumerate", data := .fields #[.none, .bool false, .ref s.heap.objs.size, rawInt 0, .none, .none] } }) :=
  .of_wp fun prog w A R s h => by
    obtain ⟨hp, g, d, tk, os⟩ := s
    obtain ⟨hl, h⟩ := h
    have hT : Heap.IsTuple (Shared.heap ⟨hp, g, d, tk, os⟩) l items := ⟨_, hl, rfl, n, rfl⟩
    have hz : (hp.push { cls := .type "tuple_iterator", data := .fields #[.ref l, .int 0 0] }).objs.size = hp.objs.size + 1 := Heap.size_push ..
    have hsub := sub_enumerate
    rw [← hz] at h
    wp_walk using AutoSeq1.wpAny_loadPart' hl
    refine wpAny_stack_any fun st => wpAny_pure ?_
    split
    · rename_i c _ _ _ _ _
      cases (c == Value.type "enumerate")
      · wp_walk using AutoSeq1.wpAny_loadPart' hl, wpAny_pyIter_tuple hT
        exact ⟨_, rfl, h⟩
      · wp_walk using AutoSeq1.wpAny_loadPart' hl, wpAny_pyIter_tuple hT
        exact ⟨_, rfl, h⟩
    · wp_walk using AutoSeq1.wpAny_loadPart' hl, wpAny_pyIter_tuple hT
      exact ⟨_, rfl, h⟩
theorem call_enumT {prog : Program} {w : World} {A : Around} {E : Value → Shared → Prop} {s : Shared} {l : Addr} {items : Array Value} {Q : Value → Shared → Prop} (hL : s.heap.IsTuple l items)
    (h : ∀ h', IsEnum h' (s.heap.objs.size + 1) s.heap.objs.size 0 .none → h'.IsTupleIter s.heap.objs.size l 0 → (∀ b o, s.heap.get? b = some o → h'.get? b = some o) → Q (.ref (s.heap.objs.size + 1)) { s with heap := h' }) :
    wpAny (model prog w) A (call (.type "enumerate") [.ref l]) Q E s := by
  obtain ⟨⟨c, dct, dt, sl⟩, hl, hc, n, hd⟩ := hL
  simp only at hc hd
  subst hc hd
  refine callType_new F.called_enumerate (by decide) (F.typeCall_enumerate_1 _) (F.newCall_enumerate_1 _) (fun obj => F.args_object_init_2 obj _) F.entry_enumerate_new (new_enumT l items n dct sl) ⟨hl, ?_⟩
  have hz : (s.heap.push { cls := .type "tuple_iterator", data := .fields #[.ref l, .int 0 0] }).objs.size = s.heap.objs.size + 1 := Heap.size_push ..
  have he : IsEnum ((s.heap.push { cls := .type "tuple_iterator", data := .fields #[.ref l, .int 0 0] }).push
      { cls := .type "enumerate", data := .fields #[.none, .bool false, .ref s.heap.objs.size, rawInt 0, .none, .none] }) (s.heap.objs.size + 1) s.heap.objs.size 0 .none := by
    have q := Heap.get?_push_size (s.heap.push { cls := .type "tuple_iterator", data := .fields #[.ref l, .int 0 0] })
      (o := { cls := .type "enumerate", data := .fields #[.none, .bool false, .ref s.heap.objs.size, rawInt 0, .none, .none] }) rfl
    rw [hz] at q
    exact q
  exact ⟨⟨_, he, rfl⟩, h _ he ⟨_, Heap.get?_push_of_some _ (Heap.get?_push_size _ rfl), rfl, rfl⟩ fun b o x => Heap.get?_push_of_some _ (Heap.get?_push_of_some _ x)⟩
/-- the tuple at a, each item in a new pair -/
def ItEt (K : PySem.W.Frag) (a : Addr) : It :=
  ⟨fun i H => ∃ (xs : List V) (x : V), SqT K H a xs ∧ xs[i]? = some x, fun i H v H' => ∃ T x, v = .ref T ∧ H T = none ∧ H' = upd H T (.tup [.int (i : Nat), x]) ∧ ∀ xs, SqT K H a xs → xs[i]? = some x, fun i H => ∃ xs : List V, SqT K H a xs ∧ xs.length = i⟩
/-- the tuple's objects as they stand in the concrete heap -/
def TupAs (t : Addr) (items : Array Value) (h : Heap) : Prop := h.IsTuple t items
theorem turn_enumT {P : Program} {w : World} {K : PySem.W.Frag} {elts : List Expr} {kk : Nat} {tpos : Pos} (a e it : Addr) :
    Turn P w K (.Tuple elts kk tpos) (ItEt K a) [e, it] e (fun i h => (∃ old, IsEnum h e it ((i : Nat) : Int) old) ∧ h.IsTupleIter it a i ∧ e ≠ it ∧ a ≠ it ∧ a ≠ e) where
  mem := by simp
  obj := fun i h st b hb => by
    obtain ⟨⟨old, he⟩, ⟨o, ho, hc, hd⟩, _⟩ := st
    rcases (show b = e ∨ b = it by simpa using hb) with z | z
    · rw [z]
      exact ⟨_, he, fun v q => nomatch q⟩
    · rw [z]
      exact ⟨o, ho, fun v q => by rw [hd] at q; cases q⟩
  keep := fun i h h' st k => let ⟨⟨old, he⟩, hi, hne⟩ := st; ⟨⟨old, k e (by simp) _ he⟩, hi.at fun o q => k it (by simp) o q, hne⟩
  item := by
    intro X hP hw hK hc i pins s σ H E I hf st hg
    subst hP hw hK
    obtain ⟨⟨old, he⟩, hit, hne, hai, hae⟩ := st
    obtain ⟨xs, x, hq, hx⟩ := hg
    obtain ⟨its, rv, p, hz⟩ := I.tuple hq
    obtain ⟨u, hu, ru⟩ := rv.get hx
    have hT : s.heap.IsTuple a its.toArray := p
    have hel : e < s.heap.objs.size := Heap.lt_size he
    have hil : it < s.heap.objs.size := by obtain ⟨_, q, _⟩ := hit; exact Heap.lt_size q
    have hlt : i < its.toArray.size := by
      have q := (List.getElem?_eq_some_iff.mp hu).1
      simpa using q
    refine wpAny_pyNext_enum_itemD (Draws.tuple (prog := X.prog) (w := X.w) (A := X.A.in1) (I.ok.hd hc) it a hai its.toArray) he ⟨hit, hT⟩ hlt hne (by simp [hne, Ne.symm hae]) fun u1 h' tk hu1 ho st' hT1 hsz hk => ?_
    have eu : u1 = u := by
      have q : its[i]? = some u1 := by simpa using hu1
      rw [hu] at q
      exact (Option.some.inj q).symm
    subst eu
    refine ⟨_, rfl, wpAny_letOwnedTupleGo_enum (s := { s with heap := h', toks := tk + 1 }) ho fun h'' he' sb => ?_⟩
    have hT2 : h''.get? s.heap.objs.size = some { cls := .type "tuple", data := .seq #[.int i tk, u1] } := (sb.2 _ (Nat.ne_of_gt hel)).trans hT1
    have new : ObjOk X.prog X.w (upd H s.heap.objs.size (.tup [.int (i : Nat), x])) h'' s.heap.objs.size (.tup [.int (i : Nat), x]) :=
      ⟨by show 2 ≤ sizeLine; decide, [.int i tk, u1], .cons ⟨_, rfl⟩ (.cons ru .nil), ⟨_, hT2, rfl, _, rfl⟩⟩
    have I1 : Inv X pins σ (upd H s.heap.objs.size (.tup [.int (i : Nat), x])) { s with heap := h'', toks := tk + 1 } :=
      I.turnedNew (ch := [e, it]) (fun b ob hb q => (sb.2 b (fun z => hb (by simp [z]))).trans (hk b ob (fun z => hb (by simp [z])) (fun z => hb (by simp [z])) q)) hf (Nat.le_refl _) new
    refine ⟨.ref s.heap.objs.size, _, I1, rfl, ⟨_, x, rfl, I.hok.fresh (Nat.le_refl _), rfl, fun ys hy => by rw [I.tuple_inj hy hq]; exact hx⟩, ⟨⟨u1, ?_⟩, st'.1.at fun o q => (sb.2 it (Ne.symm hne)).trans q, hne, hai, hae⟩, fun b hb => ?_⟩
    · have e1 : ((i + 1 : Nat) : Int) = (i : Int) + 1 := by omega
      rw [e1]
      exact he'
    · have hb' : b < s.heap.objs.size := by
        rcases (show b = e ∨ b = it by simpa using hb) with z | z
        · rw [z]; exact hel
        · rw [z]; exact hil
      rw [upd_ne (Nat.ne_of_lt hb')]
      exact (hf b hb).1
  done := by
    intro X hP hw hK hc i pins s σ H E I hf st hg
    subst hP hw hK
    obtain ⟨⟨old, he⟩, hit, hne, hai, hae⟩ := st
    obtain ⟨xs, hq, hx⟩ := hg
    obtain ⟨its, rv, p, hz⟩ := I.tuple hq
    have hT : s.heap.IsTuple a its.toArray := p
    obtain ⟨f0, f1, f2, f3, f4, f5⟩ := hf it (by simp)
    have en : its.toArray.size = i := by
      rw [← hx, rv.length]
      simp
    refine wpAny_pyNext_enum_endD (Draws.tuple (prog := X.prog) (w := X.w) (A := X.A.in1) (I.ok.hd hc) it a hai its.toArray) he ⟨by rw [en]; exact hit, hT⟩ fun h' eb => ⟨rfl, I.turned (t' := s.toks) (fun b o hb q => eb b o hb q) f0 f1 f3 f4 f5⟩
  self := fun A i s Q E st h => let ⟨⟨_, he⟩, _⟩ := st; wpAny_pyIter_enum he h
def iEnumT (K : PySem.W.Frag) (ta : TA) : TI := fun σ H R => ta σ H fun vs H1 => ∃ a xs, vs = [.ref a] ∧ SqT K H1 a xs ∧ R (ItEt K a) H1
theorem pi_enumT {X : Cx} {e : Expr} {ta : TA} {p pos tpos : Pos} {elts : List Expr} {kk : Nat} (hg : Gl X "enumerate") (hm : X.mg "enumerate" = none) (ha : PA X [e] ta) (hs : starEach [e] X.env = [(false, eval e X.env)] := by rfl) :
    PI X (.Tuple elts kk tpos) (.Call (.Name "enumerate" p) [e] [] pos) (iEnumT X.K ta) := by
  refine ⟨fun pins s σ H R I h => ?_⟩
  refine Call_ (ld_blt I hg hm boot_enumerate (PyProof.Rows.callWith_type1 (thn (ha.run pos pins s σ H _ I h) fun us s1 ⟨vs, H1, I1, r1, q1⟩ => ?_) hs rfl))
  obtain ⟨a, xs, ex, hq, q⟩ := q1
  subst ex
  obtain ⟨u, rfl, r⟩ := vals1 r1
  cases (show u = Value.ref a from r)
  obtain ⟨its, rv, p', hz⟩ := I1.tuple hq
  have hlt : a < s1.heap.objs.size := p'.lt
  refine call_enumT (show s1.heap.IsTuple a its.toArray from p') fun h' he hit hk => wpAny_pyIter_enum he ?_
  refine ⟨s1.heap.objs.size + 1, [s1.heap.objs.size + 1, s1.heap.objs.size], _, _, H1, rfl, I1.kept (t' := s1.toks) hk, turn_enumT a (s1.heap.objs.size + 1) s1.heap.objs.size, ⟨⟨.none, he⟩, hit, Nat.succ_ne_self _, Nat.ne_of_lt hlt, Nat.ne_of_lt (Nat.lt_succ_of_lt hlt)⟩, fun b hb => ?_, q⟩
  have hle : s1.heap.objs.size ≤ b := by
    rcases (show b = s1.heap.objs.size + 1 ∨ b = s1.heap.objs.size by simpa using hb) with z | z
    · rw [z]; exact Nat.le_add_right _ _
    · rw [z]; exact Nat.le_refl _
  exact I1.fpOk hle (I1.hok.fresh hle)
end L2
end

section
set_option Elab.async false
set_option linter.all false
set_option maxRecDepth 100000
set_option maxHeartbeats 4000000
/-! set(..) of a list or tuple of ints; a comprehension, a for over anything walked n times. -/
namespace L2
open PySem PySem.Spec PyProof.Rows
section
variable {P : Program} {w : World} {A : Around} {E : Value → Shared → Prop} {s : Shared}
/-- set(l), l a list of ints -/
theorem set_of_list {l : Addr} {items : Array Value} (ns : List Int) {Q : Value → Shared → Prop} (hh : A.handled = none) (hl : s.heap.IsList l items) (hit : IntsAre items.toList ns) (hb : ns.length + 1 < scanBound)
    (h : ∀ (h' : Heap) (tk c : Nat), SetR w h' s.heap.objs.size (fun j => decide (j ∈ ns)) c → c ≤ ns.length → (∀ b o, s.heap.get? b = some o → h'.get? b = some o) → Q (.ref s.heap.objs.size) { s with heap := h', toks := tk }) :
    wpAny (model P w) A (call (.type "set") [.ref l]) Q E s := by
  obtain ⟨⟨lc, ld, ldt, lsl⟩, hol, hcl, nl, hdl⟩ := hl
  simp only at hcl hdl
  subst hcl hdl
  have hisz : items.size = ns.length := by
    have q := IntsAre.length hit
    rw [Array.length_toList] at q
    exact q
  have hlS : l < s.heap.objs.size := Heap.lt_size hol
  obtain ⟨c, tl, hmro⟩ := F.called_set.mro
  have hmade := F.called_set.made
  have hsub := F.called_set.sub
  let N : Obj := { cls := .type "set", dict := none, data := .set #[] 0 (.fresh 0 0 (!w.params.followText "set-order")) }
  have hN : (s.heap.push N).get? s.heap.objs.size = some N := Heap.get?_push_size _ rfl
  have hzN : (s.heap.push N).objs.size = s.heap.objs.size + 1 := Heap.size_push ..
  have holN : (s.heap.push N).get? l = some { cls := .type "list", dict := ld, data := .seq items nl, slots := lsl } := Heap.get?_push_of_some _ hol
  have hlN : (s.heap.push N).IsList l items := ⟨_, holN, rfl, nl, rfl⟩
  have hne1 : l ≠ (s.heap.push N).objs.size := by rw [hzN]; exact Nat.ne_of_lt (Nat.lt_succ_of_lt hlS)
  refine wpAny_call (codeAny_of_tree ?_)
  show wpAny _ _ (callAny (.type "set") _) _ _ _
  refine wpAny_pure ⟨Code.quiet_builtin _ (by decide +kernel), codeAny_builtin F.entry_type_call ?_⟩
  rw [Around.under_plain (weight_type_call_type "set" [.ref l] []) rfl]
  have g1 := F.called_set.notType
  have g2 := F.called_set.canCreate
  have g3 := F.typeCall_set_1 (.ref l)
  repeat (any_goals (first | assumption | wp_step))
  refine codeAny_mono (code_set_led1 (.ref l) (E := E) (Q₁ := fun obj s₁ => obj = .ref s.heap.objs.size ∧ s₁ = { s with heap := s.heap.push N }) ⟨rfl, rfl⟩) fun r s₁ hr => ?_
  cases r with
  | error e => exact hr
  | ok fl =>
    cases fl with
    | next => exact hr
    | brk => exact hr
    | cont => exact hr
    | ret obj =>
      obtain ⟨rfl, rfl⟩ := hr
      have hT : Shared.TypeIs { s with heap := s.heap.push N } (.ref s.heap.objs.size) "set" := ⟨_, hN, rfl⟩
      have hli := F.called_set.init.lookup
      have hbi := F.called_set.init.bind (.ref s.heap.objs.size)
      repeat (any_goals (first | assumption | wp_step))
      refine codeAny_mono (codeAny_call_builtin (R := wants (fun r s₂ => r = .none ∧ ∃ h' tk c, s₂ = { s with heap := h', toks := tk } ∧ SetR w h' s.heap.objs.size (fun j => decide (j ∈ ns)) c ∧ c ≤ ns.length ∧
          (∀ b o, s.heap.get? b = some o → h'.get? b = some o)) E) F.called_set.init.plain F.entry_set_init (check_set_init_1 hT ?_)) fun r₂ s₂ hr₂ => ?_
      · have k1 := F.sub_list_set
        have k2 := F.sub_list_frozenset
        have k3 : (Value.type "list" == Value.type "dict") = false := by decide
        have holN' : (s.heap.push { cls := .type "set", dict := none, data := .set #[] 0 (.fresh 0 0 (!w.params.followText "set-order")) }).get? l = some { cls := .type "list", dict := ld, data := .seq items nl, slots := lsl } := holN
        unfold Builtin.«set.__init__» noKeywords Builtin.Frozenset.updateFrom
        generalize hPI : pyIter = PI
        wp_walk
        subst hPI
        refine wpAny_pyIter_list hlN ?_
        refine wpAny_bind (wpAny_runValue ?_)
        have hval : ∀ (i : Nat) (v : Value), items[i]? = some v → ∃ k t, ns[i]? = some k ∧ v = .int k t := fun i v hv => by
          have hi : i < ns.length := by rw [← hisz]; exact (Array.getElem?_eq_some_iff.mp hv).1
          obtain ⟨t, e⟩ := PyProof.Rows.IntsAre.int_at hit i v (by rw [Array.getElem?_toList]; exact hv)
          refine ⟨ns[i], t, List.getElem?_eq_getElem hi, ?_⟩
          rw [e, List.getD_eq_getElem?_getD, List.getElem?_eq_getElem hi] <;> rfl
        have hout : s.heap.objs.size ∉ [(s.heap.push N).objs.size, l] := by
          rw [hzN]
          simp only [List.mem_cons, List.not_mem_nil, or_false, not_or]
          exact ⟨Nat.ne_of_lt (Nat.lt_succ_self _), Nat.ne_of_gt hlS⟩
        refine set_update_ints ((Walks.list (show A.in1.in1.in1.handled = none by simp [hh]) _ l hne1 items).toS) s.heap.objs.size hout ns hisz hb hval (items.size - 0) 0 _ (by omega) (Nat.zero_le _)
          ⟨⟨_, Heap.get?_push_size _ rfl, rfl, rfl⟩, hlN.push _⟩ ⟨0, Nat.le_refl 0, setR_new_at (Heap.get?_push_of_some _ hN)⟩ fun s' c' hm hc' hS' => ?_
        obtain ⟨h', gg, dd, tt, oo⟩ := s'
        obtain rfl : gg = s.gens := hm.gens
        obtain rfl : dd = s.drawn := hm.drawn
        obtain rfl : oo = s.os := hm.os
        show wpAny _ _ _ _ _ _
        refine wpAny_pure ?_
        show wpAny _ _ (ret Value.none) _ _ _
        refine wpAny_pure ⟨rfl, h', tt, c', rfl, hS', by rw [hisz] at hc'; exact hc', fun b o e => ?_⟩
        have hb0 : b < s.heap.objs.size := Heap.lt_size e
        refine hm.heap b o ?_ (Heap.get?_push_of_some _ (Heap.get?_push_of_some _ e))
        show b ∉ [s.heap.objs.size, (s.heap.push N).objs.size]
        rw [hzN]
        simp only [List.mem_cons, List.not_mem_nil, or_false, not_or]
        exact ⟨Nat.ne_of_lt hb0, Nat.ne_of_lt (Nat.lt_succ_of_lt hb0)⟩
      · cases r₂ with
        | error e => exact hr₂
        | ok fl₂ =>
          cases fl₂ with
          | ret r =>
            obtain ⟨rfl, h', tk, c', rfl, hS', hc', hk'⟩ := hr₂
            repeat (any_goals (first | assumption | wp_step))
            exact h _ _ _ hS' hc' hk'
          | next => exact hr₂.elim
          | brk => exact hr₂.elim
          | cont => exact hr₂.elim
end
section
variable {X : Cx}
def rSetOf (K : PySem.W.Frag) (w : World) : List V → Hp → VK → Prop := fun xs H Q => ∃ (a : Addr) (ns : List Int), xs = [.ref a] ∧ (SqL K H a (ns.map V.int) ∨ SqT K H a (ns.map V.int)) ∧ ns.length ≤ 1000 ∧
  ∀ (p : Addr) (c : Nat), H p = none → c ≤ ns.length → Q (.ref p) (upd H p (SetO w p (fun j => decide (j ∈ ns)) c))
theorem cr_setOf (hc : X.calm = true) : CallR X (.type "set") (rSetOf X.K X.w) := by
  intro pins s σ H xs us Q I r h
  obtain ⟨a, ns, rfl, hq, hl, q⟩ := h
  obtain ⟨u, rfl, ru⟩ := vals1 r
  cases (show u = Value.ref a from ru)
  have hd := I.ok.hd hc
  have fin : ∀ (h' : Heap) (tk c : Nat), SetR X.w h' s.heap.objs.size (fun j => decide (j ∈ ns)) c → c ≤ ns.length → (∀ b o, s.heap.get? b = some o → h'.get? b = some o) → EP X pins σ Q (.ref s.heap.objs.size) { s with heap := h', toks := tk } := fun h' tk c R hcn k =>
    ⟨.ref s.heap.objs.size, _, I.laid k (Nat.le_refl _) (setO_new R), rfl, q _ c (I.hok.fresh (Nat.le_refl _)) hcn⟩
  have hb : ns.length + 1 < scanBound := by unfold scanBound; omega
  rcases hq with hq | hq
  · obtain ⟨its, rv, ⟨o, n, e, hcl, _, hdt⟩, hz⟩ := I.list hq
    exact set_of_list ns hd ⟨o, e, hcl, n, hdt⟩ (by simpa using ints_of_vals rv) hb fin
  · obtain ⟨its, rv, pt, hz⟩ := I.tuple hq
    exact call_set_tupI ns hd (show s.heap.IsTuple a its.toArray from pt) (by simpa using ints_of_vals rv) hb fin
end
/-! ### n turns of anything -/
theorem lc_by {J : It} {g : TG} {tt : TT} {te : TE} {vs : List Nat} {σ : St} {H : Hp} {D : Addr} {Q : VK} (n : Nat) (Pv : Nat → Hp → Prop) (h0 : Pv 0 (upd H D (.lst []))) (hgo : ∀ i H, i < n → Pv i H → J.go i H) (hstop : ∀ H, Pv n H → J.stop n H)
    (hs : ∀ i H x H', i < n → Pv i H → J.yld i H x H' → g x (wipe σ vs) H' fun σ2 H2 => wipe σ2 vs = wipe σ vs ∧ tt σ2 H2 fun b H3 => if b = true then te σ2 H3 fun y H4 => ∃ acc, H4 D = some (.lst acc) ∧ acc.length < sizeLine ∧ Pv (i + 1) (upd H4 D (.lst (acc ++ [y]))) else Pv (i + 1) H3)
    (hd : ∀ H, Pv n H → Q (.ref D) H) :
    ∃ W : Nat → Nat → Hp → Prop, (∃ m, W 0 m (upd H D (.lst []))) ∧ ∀ i m H, W i m H →
      (J.stop i H ∧ Q (.ref D) H) ∨ (J.go i H ∧ ∃ Nx : Hp → Prop, (∀ H', Nx H' → ∃ m', m' < m ∧ W (i + 1) m' H') ∧ ∀ x H', J.yld i H x H' → g x (wipe σ vs) H' fun σ2 H2 => wipe σ2 vs = wipe σ vs ∧ tt σ2 H2 fun b H3 =>
        if b = true then te σ2 H3 fun y H4 => ∃ acc, H4 D = some (.lst acc) ∧ acc.length < sizeLine ∧ Nx (upd H4 D (.lst (acc ++ [y]))) else Nx H3) := by
  refine ⟨fun i m H => i + m = n ∧ Pv i H, ⟨n, Nat.zero_add n, h0⟩, fun i m H ⟨e, p⟩ => ?_⟩
  by_cases hi : i < n
  · exact .inr ⟨hgo i H hi p, Pv (i + 1), fun H' q => ⟨m - 1, by omega, by omega, q⟩, fun x H' y => hs i H x H' hi p y⟩
  · have ei : i = n := by omega
    subst ei
    exact .inl ⟨hstop H p, hd H p⟩
theorem for_by {J : It} {g : TG} {tb : TS} {D : Ends} {σ : St} {H : Hp} (n : Nat) (Pv : Nat → St → Hp → Prop) (h0 : Pv 0 σ H) (hgo : ∀ i σ H, i < n → Pv i σ H → J.go i H) (hstop : ∀ σ H, Pv n σ H → J.stop n H)
    (hs : ∀ i σ H x H', i < n → Pv i σ H → J.yld i H x H' → g x σ H' fun σ2 H2 => tb { D with nx := Pv (i + 1), ct := Pv (i + 1), bk := D.nx } σ2 H2) (hd : ∀ σ H, Pv n σ H → D.nx σ H) :
    ∃ W : Nat → Nat → St → Hp → Prop, (∃ m, W 0 m σ H) ∧ ∀ i m σ H, W i m σ H →
      (J.stop i H ∧ D.nx σ H) ∨ (J.go i H ∧ ∃ N : St → Hp → Prop, (∀ σ' H', N σ' H' → ∃ m', m' < m ∧ W (i + 1) m' σ' H') ∧ ∀ x H', J.yld i H x H' → g x σ H' fun σ2 H2 => tb { D with nx := N, ct := N, bk := D.nx } σ2 H2) := by
  refine ⟨fun i m σ H => i + m = n ∧ Pv i σ H, ⟨n, Nat.zero_add n, h0⟩, fun i m σ H ⟨e, p⟩ => ?_⟩
  by_cases hi : i < n
  · exact .inr ⟨hgo i σ H hi p, Pv (i + 1), fun σ' H' q => ⟨m - 1, by omega, by omega, q⟩, fun x H' y => hs i σ H x H' hi p y⟩
  · have ei : i = n := by omega
    subst ei
    exact .inl ⟨hstop σ H p, hd σ H p⟩
end L2
end

section
set_option Elab.async false
set_option linter.all false
set_option maxRecDepth 100000
set_option maxHeartbeats 4000000
/-! Lambdas as values: made, kept in H; called without arguments; as the key of sorted. -/
namespace LamV
open PySem PySem.Spec PyProof.Rows L2 LamX
/-- the object at f is the lambda params: body, made by X's code -/
def LamO (X : Cx) (f c' : Addr) (params : Arguments) (body : Expr) (scope : Scope) : HO :=
  .ext fun h => ∃ pm ctv : Value, h.get? f = some (PySem.W.kla_obj "<lambda>" (X.env.qual ++ "<lambda>") params body scope (cloFrom X.env.cells scope.names []) pm c' ctv)
section
variable {X : Cx}
theorem lamO_ok {H : Hp} {h : Heap} {f c' : Addr} {params : Arguments} {body : Expr} {scope : Scope} {pm ctv : Value}
    (e : h.get? f = some (PySem.W.kla_obj "<lambda>" (X.env.qual ++ "<lambda>") params body scope (cloFrom X.env.cells scope.names []) pm c' ctv)) : ObjOk X.prog X.w H h f (LamO X f c' params body scope) :=
  ⟨⟨pm, ctv, e⟩, ⟨_, e⟩, fun h1 h2 ⟨a, b, q⟩ k => ⟨a, b, k _ q⟩⟩
/-- a lambda as a value: its object is new and told; the tables may grow -/
def tLamV (X : Cx) (T : List (Addr × Str)) (params : Arguments) (body : Expr) (scope : Scope) : TE := fun _ H Q => Tabs T H ∧ ∀ (f c' : Addr) (H1 : Hp), ExtN H H1 → Tabs T H1 → H1 f = none →
  H1 c' = some (CodeO c' (X.env.qual ++ "<lambda>")) → Q (.ref f) (upd H1 f (LamO X f c' params body scope))
theorem pe_lambda {T : List (Addr × Str)} {c P : Addr} {params : Arguments} {body : Expr} {scope : Scope} {pos : Pos} (TB : TabB X.base X.mg c P) (hcode : X.env.code = .ref c) (hm : (P, X.env.qual ++ "<lambda>") ∈ T) (hu : ∀ p ∈ T, p.1 = P → p.2 = X.env.qual ++ "<lambda>")
    (hfree : ∀ y ∈ scope.names, y.2 = .free → X.env.scope.names.lookup y.1 = some .cell ∨ X.env.scope.names.lookup y.1 = some .free) (hdef : defaultsOf params X.env = ([], [])) : PE X (.Lambda params body scope pos) (tLamV X T params body scope) := by
  refine ⟨fun pins s σ H Q I h => ?_⟩
  obtain ⟨hT, h⟩ := h
  obtain ⟨ps, hP, ht, ha⟩ := hT _ hm
  have fr : ∀ y ∈ scope.names, y.2 = .free → ∃ c, X.env.cells.lookup y.1 = some c := fun y hy e => (hfree y hy e).elim (fun k => I.ok.has _ (.inl k)) fun k => I.ok.has _ (.inr k)
  have bP : s.heap.BuiltinsAt X.mg P := TB.bm.keeps I.bk
  have hP' : s.heap.get? P = some { cls := .none, data := .fields ps } := I.hok P _ hP
  refine PySem.W.kla_eval hdef ?_
  cases hc : codeAmong pos ps.toList with
  | some cv =>
    obtain ⟨c', e, hco⟩ := ha pos cv hc
    subst e
    refine PySem.W.kla_makeFunctionHit (mg := X.mg) (c := c) (P := P) (ps := ps) (closure_ok fr) I.ok.glob (I.mod.glob.keeps I.bk) hcode (TB.code.keeps I.bk) hP' ht hc bP fun ctv h' tk hx hsz => ?_
    have I1 : Inv X pins σ (upd H h'.objs.size (LamO X h'.objs.size c' params body scope)) { s with heap := h'.push (PySem.W.kla_obj "<lambda>" (X.env.qual ++ "<lambda>") params body scope (cloFrom X.env.cells scope.names []) ((X.mg "__name__").getD .none) c' ctv), toks := tk } :=
      I.laid (fun b o e => Heap.get?_push_of_some _ (hx b o e)) hsz (lamO_ok (Heap.get?_push_size _ rfl))
    exact ⟨.ref h'.objs.size, _, I1, rfl, h _ c' H (ExtN.refl H) hT (I.hok.fresh hsz) hco⟩
  | none =>
    refine PySem.W.kla_makeFunction (mg := X.mg) (c := c) (P := P) (ps := ps) (closure_ok fr) I.ok.glob (I.mod.glob.keeps I.bk) hcode (TB.code.keeps I.bk) hP' ht hc TB.gP bP fun c' ctv h' tk hx hge hlt hrec htb => ?_
    obtain ⟨c2, oc, vs, t, e2, hoc, hd, hv⟩ := hrec
    cases e2
    have hsz : s.heap.objs.size ≤ h'.objs.size := Nat.le_trans hge (Nat.le_of_lt hlt)
    have nC : H c' = none := I.hok.fresh hge
    have I0 := inv_table (t' := tk) (more := #[rawInt pos.line, rawInt pos.col, .ref c']) (h' := h') I hP (fun b o hb e => hx b o hb e) htb hge ⟨oc, vs, t, hoc, hd, hv⟩
    have hE : ExtN H (upd (upd H P (.tbl (ps ++ #[rawInt pos.line, rawInt pos.col, .ref c']))) c' (CodeO c' (X.env.qual ++ "<lambda>"))) := fun b o e n => by
      rw [upd_ne (ne_of_none e nC), upd_ne (fun z => n ps (Option.some.inj (e.symm.trans (by rw [z]; exact hP))))]
      exact e
    have I1 : Inv X pins σ (upd (upd (upd H P (.tbl (ps ++ #[rawInt pos.line, rawInt pos.col, .ref c']))) c' (CodeO c' (X.env.qual ++ "<lambda>"))) h'.objs.size (LamO X h'.objs.size c' params body scope))
        { s with heap := h'.push (PySem.W.kla_obj "<lambda>" (X.env.qual ++ "<lambda>") params body scope (cloFrom X.env.cells scope.names []) ((X.mg "__name__").getD .none) c' ctv), toks := tk } :=
      I0.laid (fun b o e => Heap.get?_push_of_some _ e) (Nat.le_refl _) (lamO_ok (Heap.get?_push_size _ rfl))
    have eL : (ps ++ #[rawInt pos.line, rawInt pos.col, .ref c']).toList = ps.toList ++ [rawInt pos.line, rawInt pos.col, .ref c'] := by simp
    refine ⟨.ref h'.objs.size, _, I1, rfl, h _ c' _ hE (fun p hp => ?_) (I0.hok.fresh (Nat.le_refl _)) upd_same⟩
    by_cases hb : p.1 = P
    · rw [hu p hp hb, hb]
      refine ⟨_, by rw [upd_ne (ne_of_none hP nC), upd_same], by rw [eL]; exact PySem.TriplesOk_snoc _ _ _ _ ht, fun p' cv hcv => ?_⟩
      rw [eL] at hcv
      rcases among_app _ ht hcv with z | z
      · obtain ⟨c0, e1, e2⟩ := ha p' cv z
        exact ⟨c0, e1, hE _ _ e2 codeO_ne⟩
      · exact ⟨c', z, upd_same⟩
    · obtain ⟨ps', a1, a2, a3⟩ := hT p hp
      refine ⟨ps', by rw [upd_ne (ne_of_none a1 nC), upd_ne hb]; exact a1, a2, fun p' cv hcv => ?_⟩
      obtain ⟨c0, e1, e2⟩ := a3 p' cv hcv
      exact ⟨c0, e1, hE _ _ e2 codeO_ne⟩
end
section
variable {X : Cx} {pins : List (Addr × Obj)} {σ : L2.St} {H HZ : Hp} {s s1 : Shared}
/-- a(), in a def that got the lambda: Z is that def's context, entered at s; the lambda is X's -/
theorem pe_callLam {CXg : CXT} {Eg : XK} {Ng : List Str} {qg : Str} {sg : Scope} {g : Addr} {cdg : Value} {params : Arguments} {body : Expr} {scope : Scope} {k i : Nat} {a : Str} {pn : List (Addr × Obj)} {xe : Value → Shared → Prop} {W : WX} {E : XK} {tb : TE} {p1 p2 : Pos} {f c' : Addr}
    (I : Inv X pins σ H s) (L : LamS X.env.scope scope)
    (hbind : ∀ (q : Str) (cl : List (Str × Addr)) (pm cv ctv : Value), bindArgs (PySem.W.kla_fn "<lambda>" q params body scope cl pm cv ctv) ⟨[], []⟩ = pure [])
    (tk : Takes ((cxOf CXg X.prog X.w X.K X.mg X.base Ng qg sg g cdg X.A X.stack s H Eg).tr pn xe) W) (hW : ∀ cls d σ' H', E cls d H' → W cls d σ' H') (hr : Room (k + 1) (X.A.deeper (envOfC qg sg s.heap.objs.size g cdg)))
    (hbody : ∀ (A : Around) (outer : List Env) (s : Shared) (H : Hp), Room k (A.deeper (lamEnv X scope s.heap.objs.size f c')) → PE (lamCx X A outer s H E scope f c') body tb)
    (hN : Ng[i]? = some a) (hv : Vis sg a) (hd : (a == ("__debug__" : Str)) = false := by decide) (hcd : (a == ("__classdict__" : Str)) = false := by decide) :
    PE ((cxOf CXg X.prog X.w X.K X.mg X.base Ng qg sg g cdg X.A X.stack s H Eg).tr pn xe) (.Call (.Name a p1) [] [] p2)
      (fun σZ HZ Q => σZ[i]? = some (some (.ref f)) ∧ HZ f = some (LamO X f c' params body scope) ∧ HZ c' = some (CodeO c' (X.env.qual ++ "<lambda>")) ∧ tb σ HZ Q) := by
  refine ⟨fun pinsZ sZ σZ HZ Q IZ h => ?_⟩
  obtain ⟨hs, hf, hc, ht⟩ := h
  refine wpAny_Call_Name_kw (thn ((pe_var (pos := p1) (i := i) hN hv hd hcd).run pinsZ sZ σZ HZ (fun v H1 => v = .ref f ∧ H1 = HZ) IZ ⟨.ref f, hs, rfl, rfl⟩) fun u s1 ⟨v, H1, I1, r1, q1⟩ => ?_)
  obtain ⟨rfl, rfl⟩ := q1
  obtain rfl : u = Value.ref f := r1
  obtain ⟨⟨pm, ctv, of1⟩, _, _⟩ := I1.hok f _ hf
  obtain ⟨⟨oc, vs, t, hoc, hdc, hvc⟩, _, _⟩ := I1.hok c' _ hc
  refine PySem.W.callWith_F0 ⟨_, _, _, _, of1⟩ ?_
  have un : Un (frs X.stack) [] H H1 s.heap s1.heap := I1.base
  have rc : codeAny (model X.prog X.w) (X.A.deeper (envOfC qg sg s.heap.objs.size g cdg)) (.call (.ref f) ⟨[], []⟩) (CR (L2.CX X.prog X.w) (envOfC qg sg s.heap.objs.size g cdg :: X.stack) X.prog X.w H1 s1 Q E) s1 := by
    refine PySem.W.kla_callFunE hr.depth of1 rfl L.co L.gen rfl ⟨c', oc, vs, t, rfl, hoc, hdc, hvc⟩ ?_
    rw [hbind]
    refine wpAny_pure (wpAny_newFunctionEnv (fun y hy => (L.own y hy).2) (fun y hy => absurd hy (by simp)) (fun h₁ hns hsb => ⟨I1.nolimit.fresh _ hsb, ?_⟩) L.kind)
    show codeAny _ _ (.expr body (lamEnv X scope s1.heap.objs.size f c')) _ _
    have kp : ∀ b o, s1.heap.get? b = some o → h₁.get? b = some o := fun b o e => hsb.extBut b o (Nat.ne_of_lt (Heap.lt_size e)) (Heap.get?_push_of_some _ e)
    have J : Inv (lamCx X (X.A.deeper (envOfC qg sg s.heap.objs.size g cdg)) (envOfC qg sg s.heap.objs.size g cdg :: X.stack) s1 H1 E scope f c') [] σ H1 { s1 with heap := h₁, toks := s1.toks + ([] : List (Str × Value)).length } :=
      lam_start2 I L I1.env0 hr.hd un hns kp
    refine PySem.W.kla_codeExpr (wpAny_mono ((hbody _ _ s1 H1 (hr.deeper _)).run [] _ _ H1 Q J ht) (fun v s' hq => ?_) fun e s' hq => hq)
    obtain ⟨w', H', J', rv, q⟩ := hq
    exact ⟨w', H', J'.os, J'.bare, J'.base, J'.hok, rv, q⟩
  have hx : Passes (L2.CX X.prog X.w) ((cxOf CXg X.prog X.w X.K X.mg X.base Ng qg sg g cdg X.A X.stack s H Eg).tr pn xe) E := passes_call tk hW
  refine wpAny_call (codeAny_mono rc fun r s' hq => ?_)
  cases r with
  | error e => exact hx pinsZ σZ H1 s1 e s' I1 hq
  | ok fl =>
    cases fl with
    | ret u => exact I1.after hq
    | next => exact False.elim hq
    | brk => exact False.elim hq
    | cont => exact False.elim hq
end
/-! ### sorted(t, key=lambda row: row[0]) of a tuple of tuples -/
section
open PySem.W
variable {prog : Program} {w : World} {A : Around} {E : Value → Shared → Prop} {s : Shared} {β : Type} {vs : List Value} {bs : List β} {R : Value → β → Prop}
theorem collect_big {Q : List Value → Shared → Prop} (it : Addr) {o : Obj} {items : Array Value} {n : Nat} 
    (ho : s.heap.get? it = some o) (hc : o.cls = .type "tuple") (hd : o.data = .seq items n)
    (hQ : ∀ h' : Heap, s.heap.objs.size ≤ h'.objs.size → (∀ b o', s.heap.get? b = some o' → h'.get? b = some o') → Q items.toList { s with heap := h' }) (hsz : items.size ≤ sizeLine) :
    wpAny (model prog w) A (collect (.ref it)) Q E s := by
  unfold collect
  refine wpAny_bind (wpAny_runValue (codeAny_builtin F.entry_proto_collect ?_))
  rw [Around.under_plainId F.plain_proto_collect _]
  show wpAny _ A.in1 (newList [] >>= fun l => again (.builtin "list.__iadd__" ⟨[l, .ref it], []⟩)) _ _ s
  refine wpAny_bind (wpAny_newObj_type ?_)
  refine wpAny_pure ⟨plainId_quiet F.plain_list_iadd _, codeAny_builtin F.entry_list_iadd ?_⟩
  rw [Around.under_plainId F.plain_list_iadd _]
  show wpAny _ A.in1 (Builtin.List.listExtendWith (.ref s.heap.objs.size) (.ref it) (.ref s.heap.objs.size)) _ _ _
  have hS : (s.heap.push { cls := .type "list", data := .seq ([] : List Value).toArray }).get? s.heap.objs.size = some { cls := .type "list", data := .seq #[] 0 } := Heap.get?_push_size _ rfl
  have hS₂ := Heap.get?_update_self (Obj.mapSeq (· ++ items)) hS rfl
  have fin' : wpAny (model prog w) A (match Value.ref s.heap.objs.size with
      | Value.ref a => do
        match (← load a).data with
          | Data.seq xs _ => pure xs.toList
          | _ => unsupported "internal:collect"
      | _ => unsupported "internal:collect") Q E { s with heap := (s.heap.push { cls := .type "list", data := .seq ([] : List Value).toArray }).update s.heap.objs.size (Obj.mapSeq (· ++ items)) } := by
    show wpAny _ A (load s.heap.objs.size >>= _) _ _ _
    refine wpAny_bind (wpAny_load hS₂ ?_)
    refine wpAny_pure ?_
    have e : ((#[] : Array Value) ++ items).toList = items.toList := by simp
    show Q ((#[] : Array Value) ++ items).toList _
    rw [e]
    refine hQ _ (by rw [Heap.size_update, Heap.size_push]; exact Nat.le_succ _) (fun b o' hb => ?_)
    exact (Heap.get?_update_other _ _ (Nat.ne_of_gt (Heap.lt_size hb))).trans (Heap.get?_push_of_some _ hb)
  refine wpAny_mono (wpAny_extend_seq (hsz := hsz) (A := A) (R := fun r s' => r = .ok (.ret (.ref s.heap.objs.size)) ∧ s' = { s with heap := (s.heap.push { cls := .type "list", data := .seq ([] : List Value).toArray }).update s.heap.objs.size (Obj.mapSeq (· ++ items)) })
    (s := { s with heap := s.heap.push { cls := .type "list", data := .seq ([] : List Value).toArray } }) _ it _ 0 (.inr rfl) hS (Heap.get?_push_of_some _ ho) hc hd ⟨rfl, rfl⟩) (fun fin s' h => ?_) (fun e s' h => ?_)
  · cases fin with
    | done f =>
      obtain ⟨e, rfl⟩ := h
      cases e
      exact fin'
    | again c' => exact ⟨h.1, codeAny_mono h.2 fun r s'' hr => by obtain ⟨rfl, rfl⟩ := hr; exact fin'⟩
  · exact absurd h.1 (by simp)
theorem sortedT_key {l : Addr} {f : Value} {kw : List (Str × Value)} {b : Bool} {Q : Value → Shared → Prop} (k : β → PyData) (hl : s.heap.IsTuple l vs.toArray) (e : EachIs R vs bs) (hal : AllAlike (bs.map k)) (hk : Sortable (bs.map k)) (hL : bs.length ≤ sizeLine)
    (hu : ∀ x, x ∈ bs → A.units + 2 + (k x).depth < cLine) (ha1 : argsOk "sorted" ⟨[.ref l], kw⟩) (ha2 : ∀ x, argsOk "list.sort" ⟨[.ref x], kw⟩) (ht : ∀ x, Builtin.«list.sort» ⟨[.ref x], kw⟩ = ksk_tree x f b)
    (turn : ∀ (v : Value) (x : β), R v x → x ∈ bs → ∀ (h : Heap) (tk : Nat), (∀ b o, s.heap.get? b = some o → h.get? b = some o) →
      wpAny (model prog w) A.in1.in1 (call f [v]) (KeyPure (k x) { s with heap := h, toks := tk }) (fun _ _ => False) { s with heap := h, toks := tk })
    (h : ∀ out c p h' tk, (∀ b o, s.heap.get? b = some o → h'.get? b = some o) → s.heap.objs.size ≤ p → h'.get? p = some (seqObj "list" (List.toArray out) c) → out.length = bs.length → EachIs R out (bs.mergeSort (dataLe b k)) →
      Q (.ref p) { s with heap := h', toks := tk }) :
    wpAny (model prog w) A (call (.builtin "sorted") [.ref l] kw) Q E s := by
  obtain ⟨o, ho, hc, n, hd⟩ := hl
  have hvl : vs.length ≤ sizeLine := by rw [e.length]; exact hL
  refine call_function_entry_kw kind_sorted plain_sorted entry_sorted ha1 ?_
  unfold Builtin.«sorted»
  refine wpAny_bind (m := checkCount "sorted" 1 1 _) (wpAny_pure ?_)
  refine wpAny_bind (collect_big l ho hc hd (fun h1 hle k1 => ?_) (by rw [List.size_toArray]; exact hvl))
  rw [List.toList_toArray]
  refine wpAny_bind (wpAny_newList ?_ hvl)
  have old : ∀ b o, s.heap.get? b = some o → (h1.push (seqObj "list" vs.toArray 0)).get? b = some o := fun b o q => Heap.get?_push_of_some _ (k1 b o q)
  have hat : (h1.push (seqObj "list" vs.toArray 0)).get? h1.objs.size = some (seqObj "list" vs.toArray 0) := Heap.get?_push_size _ rfl
  have up : ∀ {g : Heap}, KeepsBut h1.objs.size (h1.push (seqObj "list" vs.toArray 0)) g → ∀ b o, s.heap.get? b = some o → g.get? b = some o := fun {g} kp b o q =>
    kp b o (Nat.ne_of_lt (Nat.lt_of_lt_of_le (Heap.lt_size q) hle)) (old b o q)
  refine wpAny_bind (wpAny_holding (wpAny_call_entry_kw slot_list_sort ⟨_, hat, rfl⟩ entry_list_sort ?body (ha2 _)))
  case body =>
    show wpAny (model prog w) A.in1.in1 (Builtin.«list.sort» ⟨[.ref h1.objs.size], kw⟩) _ _ _
    rw [ht]
    refine keyH_tree (kz := bs.map k) (s := { s with heap := h1.push (seqObj "list" vs.toArray 0) }) hat (by rw [List.length_map]; exact e.length.symm) hvl hal hk (bound_map (A := A.in1.in1) hu)
      (keyH_turns (s := { s with heap := h1.push (seqObj "list" vs.toArray 0) }) e fun v x hR hx h tk kp => turn v x hR hx h tk (up kp)) fun h' tk out c kp hD ko => ⟨_, rfl, ?_⟩
    exact wpAny_pure ⟨_, rfl, h out c h1.objs.size h' tk (up kp) hle hD ((ko.length (by rw [List.length_map]; exact e.length.symm)).trans e.length) (keyedOut_each k ko e)⟩
end
end LamV
end

section
set_option Elab.async false
set_option linter.all false
set_option maxRecDepth 100000
set_option maxHeartbeats 4000000
/-! What the program's defs compute, on plain data; the walks of need_many, is_stretch, need_tick. -/
namespace K7
open PySem L2
/-! ### plain data -/
abbrev Row := Int × Option Int
def optD : Option Int → PyData
  | none => .none
  | some i => .int i
def optV : Option Int → V
  | none => .non
  | some i => .int i
def rowD (r : Row) : PyData := .tuple [.int r.1, optD r.2]
def unopt : PyData → Option Int
  | .int j => some j
  | _ => none
def unrow : PyData → Row
  | .tuple [.int i, b] => (i, unopt b)
  | _ => (0, none)
def okEnd (i : Int) : PyData → Bool
  | .none => true
  | .int j => decide (i < j)
  | _ => false
def okRow (l : Int) : PyData → Bool
  | .tuple [.int i, b] => decide (0 ≤ i) && decide (l < i) && okEnd i b
  | _ => false
def okFrom : Option Int → List PyData → Bool
  | _, [] => true
  | none, _ :: _ => false
  | some l, d :: r => okRow l d && okFrom (unrow d).2 r
def itemsD : PyData → Option (List PyData)
  | .list ds => some ds
  | .tuple ds => some ds
  | _ => none
def needRows (d : PyData) : Option (List Row) := match itemsD d with
  | some ds => if okFrom (some (-1)) ds then some (ds.map unrow) else none
  | none => none
def isLst : PyData → Bool
  | .list _ => true
  | _ => false
/-- no row is a list -/
def plainRows (d : PyData) : Prop := ∀ ds, itemsD d = some ds → ds.length ≤ 1000 ∧ ∀ x ∈ ds, isLst x = false
theorem okRow_form {l : Int} {d : PyData} (h : okRow l d = true) : ∃ r : Row, d = rowD r ∧ unrow d = r ∧ 0 ≤ r.1 ∧ l < r.1 ∧ ∀ j, r.2 = some j → r.1 < j := by
  unfold okRow at h
  split at h
  · rename_i i b
    simp only [Bool.and_eq_true, decide_eq_true_eq] at h
    obtain ⟨⟨h1, h2⟩, h3⟩ := h
    unfold okEnd at h3
    split at h3
    · exact ⟨(i, none), rfl, rfl, h1, h2, fun j z => nomatch z⟩
    · rename_i j
      refine ⟨(i, some j), rfl, rfl, h1, h2, fun j' z => ?_⟩
      cases z
      exact of_decide_eq_true h3
    · cases h3
  · cases h
theorem optV_ne (o : Option Int) : (decide (optV o = V.non)) = o.isNone := by
  cases o <;> simp [optV]
theorem Dv.opt {H : Hp} : ∀ o : Option Int, Dv H (optV o) (optD o)
  | none => .non
  | some i => .int i
theorem Dv.of_opt {H : Hp} {v : V} {o : Option Int} (h : Dv H v (optD o)) : v = optV o := by
  cases o with
  | none => cases h; rfl
  | some i => cases h; rfl
theorem vint_eq (i j : Int) : decide (V.int i = V.int j) = decide (i = j) := by
  by_cases h : i = j
  · rw [h, decide_eq_true rfl, decide_eq_true rfl]
  · rw [decide_eq_false h, decide_eq_false fun z => h (V.int.inj z)]
theorem DvAll.two {H : Hp} {vs : List V} {ds : List PyData} (q : DvAll H vs ds) (h : vs.length = 2) : ∃ x1 d1 x2 d2, vs = [x1, x2] ∧ ds = [d1, d2] ∧ Dv H x1 d1 ∧ Dv H x2 d2 := by
  cases q with
  | nil => cases h
  | cons a r =>
    cases r with
    | nil => cases h
    | cons b r =>
      cases r with
      | nil => exact ⟨_, _, _, _, rfl, rfl, a, b⟩
      | cons c r => simp at h
/-- a row's tuple -/
theorem Dv.row {H : Hp} {v : V} {r : Row} (h : Dv H v (rowD r)) : ∃ a, v = .ref a ∧ H a = some (.tup [.int r.1, optV r.2]) := by
  unfold rowD at h
  cases h with
  | tup e q =>
    cases q with
    | cons a b =>
      cases b with
      | cons b c =>
        cases c
        cases a
        rw [Dv.of_opt b] at e
        exact ⟨_, rfl, e⟩
theorem Dv.mkRow {H : Hp} {a : Addr} {i : Int} {o : Option Int} (h : H a = some (.tup [.int i, optV o])) : Dv H (.ref a) (rowD (i, o)) := .tup h (.cons (.int i) (.cons (.opt o) .nil))
/-! ### calls -/
/-- a def that may be called by its name -/
structure Fn7 (P : Program) (w : World) (K : PySem.W.Frag) (mg : Str → Option Value) (base : Heap) (CX : CXT) (k : Nat) (x : Str) (sp : Sp) (dvs : List V) : Prop where
  ex : ∃ (f : Addr) (fd : FuncData) (ps : List Str) (ds : List Value), FnOk P w K mg base CX k f fd ps sp ∧ mg x = some (.ref f) ∧ PySem.W.keepIn K (.ref f) = true ∧ Binds K fd ps ds ∧ Vals dvs ds
section
variable {X : Cx} {k j : Nat} {x : Str} {sp : Sp} {dvs : List V} {p pos : Pos} {e : Expr} {es : List Expr} {t : TA}
theorem pe_f (c : Fn7 X.prog X.w X.K X.mg X.base CX0 k x sp dvs) (hr : Room j X.A) (hk : k ≤ j) (hg : Gl X x) (ha : PA X (e :: es) t)
    (hdb : (x == ("__debug__" : Str)) = false := by decide) (he : starEach (e :: es) X.env = (false, eval e X.env) :: starEach es X.env := by rfl) (hpl : (backTo pos (starEach es X.env)).any (·.1) = false := by rfl) :
    PE X (.Call (.Name x p) (e :: es) [] pos) (tCall sp dvs E0 t) := by
  obtain ⟨f, fd, ps, ds, F, hm, kp, b, d⟩ := c.ex
  exact pe_call F (hr.mono hk) hg hm kp b d pass0 ha hdb he hpl
/-- .. that may raise: W is what is taken here -/
theorem pe_fx {E : XK} {W : WX} (c : Fn7 X.prog X.w X.K X.mg X.base (L2.CX X.prog X.w) k x sp dvs) (hr : Room j X.A) (hk : k ≤ j) (hg : Gl X x) (tk : Takes X W) (hW : ∀ cls d σ H, E cls d H → W cls d σ H) (ha : PA X (e :: es) t)
    (hdb : (x == ("__debug__" : Str)) = false := by decide) (he : starEach (e :: es) X.env = (false, eval e X.env) :: starEach es X.env := by rfl) (hpl : (backTo pos (starEach es X.env)).any (·.1) = false := by rfl) :
    PE X (.Call (.Name x p) (e :: es) [] pos) (tCall sp dvs E t) := by
  obtain ⟨f, fd, ps, ds, F, hm, kp, b, d⟩ := c.ex
  exact pe_call F (hr.mono hk) hg hm kp b d (passes_call tk hW) ha hdb he hpl
end
/-- an error of the class at C with the field fn -/
def Rs (C : Addr) (fn : Str) (v : V) (H : Hp) (E : XK) : Prop := ∀ dx, H dx = none → E (.ref C) (some dx) (upd H dx (.xd [(fn, v)]))
section
variable {P : Program} {w : World} {K : PySem.W.Frag} {mg : Str → Option Value} {base : Heap} {C1 C2 fI1 fI2 : Addr}
/-! ### need_many, need_tick -/
def spMany (C2 : Addr) : Sp := fun vs H Q E => ∃ v d x, vs = [v, .str x, .int 0] ∧ Dv H v d ∧ (isNumD d = true → Q v H) ∧ (isNumD d = false → Rs C2 "word" (.str x) H E)
theorem scMany : FnScope ["value", "word", "least"] ["value", "word", "least"] (defScope sMany) := ⟨rfl, rfl, rfl, by decide +kernel, rfl, by decide +kernel, by decide +kernel⟩
theorem ok_need_many {f : Addr} {fd : FuncData} (F : FnP K "need_many" sMany [.int 0] f fd) (cI : Fn7 P w K mg base CX0 1 "is_integer" spIsInt []) (T2 : PySem.ErrX.OwnTxt P K mg "InvalidSize" sE2 "word" C2 fI2) :
    FnOk P w K mg base (L2.CX P w) 3 f fd ["value", "word", "least"] (spMany C2) := by
  refine F.ok scMany (fun vs H Q E h => ?_) (fun cdv A outer s H vs Q E hr h => ?_)
  · obtain ⟨v, d, x, rfl, _⟩ := h
    rfl
  · obtain ⟨v, d, x, rfl, hv, k1, k2⟩ := h
    refine ⟨_, pss_cons (ps_if (pw_or (pt_not (pt_val (pe_f cI hr (by decide) (by rfl) (pa_cons (pv 0) pa_nil)))) (pw_or1 (pt_cmpR op_lt (pv 0) (pv 2) (nomark _)))).pt
      (pss_one (ps_raiseOwn rfl T2 hr (takes_of rfl rfl rfl rfl) (pa_cons (pv 1) pa_nil) (by rfl))) pss_nil) (pss_one (ps_ret (pv 0))), ?_⟩
    refine ⟨_, rfl, v, d, rfl, hv, _, rfl, ?_⟩
    cases hv with
    | int i =>
      refine iteF ⟨_, rfl, _, rfl, i, 0, rfl, rfl, _, rfl, ?_⟩
      refine ite2 (fun z => ?_) (fun z => ?_)
      · have h0 := of_decide_eq_true z
        have z : isNumD (.int i) = false := decide_eq_false (by omega)
        exact ⟨_, rfl, _, rfl, k2 z⟩
      · have h0 : ¬ i < 0 := fun h => z (decide_eq_true h)
        exact ⟨_, rfl, k1 (decide_eq_true (by omega))⟩
    | _ => exact iteT (iteT ⟨_, rfl, _, rfl, k2 rfl⟩)
def spTick (C2 : Addr) : Sp := fun vs H Q E => ∃ v d, vs = [v] ∧ Dv H v d ∧ (isNumD d = true → Q v H) ∧ (isNumD d = false → Rs C2 "word" (.str "tick") H E)
theorem scTick : FnScope ["value"] ["value"] (defScope sTick) := ⟨rfl, rfl, rfl, by decide +kernel, rfl, by decide +kernel, by decide +kernel⟩
theorem ok_need_tick {f : Addr} {fd : FuncData} (F : FnP K "need_tick" sTick [] f fd) (cM : Fn7 P w K mg base (L2.CX P w) 3 "need_many" (spMany C2) [.int 0]) :
    FnOk P w K mg base (L2.CX P w) 4 f fd ["value"] (spTick C2) := by
  refine F.ok scTick (fun vs H Q E h => ?_) (fun cdv A outer s H vs Q E hr h => ?_)
  · obtain ⟨v, d, rfl, _⟩ := h
    rfl
  · obtain ⟨v, d, rfl, hv, k1, k2⟩ := h
    refine ⟨_, pss_one (ps_ret (pe_fx cM hr (by decide) (by rfl) (takes_of rfl rfl rfl rfl) (fun _ _ _ _ h => h) (pa_cons (pv 0) (pa_cons pe_str pa_nil)))), ?_⟩
    exact ⟨_, rfl, v, d, "tick", rfl, hv, k1, k2⟩
/-! ### is_stretch -/
def spStr : Sp := fun vs H Q _ => ∃ v d l, vs = [v, .int l] ∧ Dv H v d ∧ isLst d = false ∧ ∀ H', Same H H' → Q (.bl (okRow l d)) H'
theorem scStr : FnScope ["value", "last"] ["value", "last"] (defScope sIsStr) := ⟨rfl, rfl, rfl, by decide +kernel, rfl, by decide +kernel, by decide +kernel⟩
theorem ok_is_stretch {f : Addr} {fd : FuncData} (F : FnP K "is_stretch" sIsStr [] f fd) (cI : Fn7 P w K mg base CX0 1 "is_integer" spIsInt []) (cN : Fn7 P w K mg base CX0 2 "is_number" spIsNum []) (cS : Fn7 P w K mg base CX0 1 "is_sequence" spIsSeq []) (B : Blt mg) :
    FnOk P w K mg base CX0 3 f fd ["value", "last"] spStr := by
  refine F.ok scStr (fun vs H Q E h => ?_) (fun cdv A outer s H vs Q E hr h => ?_)
  · obtain ⟨v, d, l, rfl, _⟩ := h
    rfl
  · obtain ⟨v, d, l, rfl, hv, hl, k⟩ := h
    refine ⟨_, pss_cons (ps_if (pw_or (pt_not (pt_val (pe_f cS hr (by decide) (by rfl) (pa_cons (pv 0) pa_nil)))) (pw_or (pt_cmpR op_ne (pe_callB call_len_seq (by rfl) B.len boot_len (pa_cons (pv 0) pa_nil)) pe_int (nomark _))
        (pw_or (pt_not (pt_val (pe_f cN hr (by decide) (by rfl) (pa_cons (pe_ix ix_tup (pv 0) pe_int (fun _ _ => rfl)) pa_nil)))) (pw_or1 (pt_cmpR op_le (pe_ix ix_tup (pv 0) pe_int (fun _ _ => rfl)) (pv 1) (nomark _)))))).pt
      (pss_one (ps_ret pe_bl)) pss_nil)
      (pss_one (ps_ret (pe_or (pe_cmpR op_isN (pe_ix ix_tup (pv 0) pe_int (fun _ _ => rfl)) pe_non (nomark _)) (pe_one (pe_and (pe_f cI hr (by decide) (by rfl) (pa_cons (pe_ix ix_tup (pv 0) pe_int (fun _ _ => rfl)) pa_nil)) (pe_one (pe_cmpR op_gt (pe_ix ix_tup (pv 0) pe_int (fun _ _ => rfl)) (pe_ix ix_tup (pv 0) pe_int (fun _ _ => rfl)) (nomark _)))))))), ?_⟩
    refine ⟨_, rfl, v, d, rfl, hv, fun H' S => ⟨_, rfl, ?_⟩⟩
    have no : ∀ {H'}, Same H H' → okRow l d = false → Q (.bl false) H' := fun S e => by rw [← e]; exact k _ S
    cases hv with
    | lst e q => cases hl
    | tup e q =>
      rename_i a xs ds
      have e' : SqT K H' a xs := SqT.of (S _ _ e)
      refine iteF ⟨_, rfl, ⟨a, xs, rfl, .inr e', rfl, _, rfl, ?_⟩⟩
      rw [vint_eq]
      refine ite2 (fun z => ?_) (fun z => ?_)
      · have h2 : xs.length ≠ 2 := fun h => by rw [h] at z; exact absurd z (by decide)
        refine iteT (no S ?_)
        have hl2 := q.length
        unfold okRow
        split
        · rename_i heq
          cases heq
          exact absurd hl2 (by simpa using h2)
        · rfl
      · have h2 : xs.length = 2 := by
          have : ¬ (!decide ((xs.length : Int) = 2)) = true := z
          simp only [Bool.not_eq_true', decide_eq_false_iff_not, Classical.not_not] at this
          omega
        obtain ⟨x1, d1, x2, d2, rfl, rfl, q1, q2⟩ := q.two h2
        refine ⟨_, rfl, ⟨a, _, 0, x1, rfl, rfl, e', rfl, x1, d1, rfl, q1.ext (Sub.of S), _, rfl, ?_⟩⟩
        have n1 : isNumD d1 = false → okRow l (.tuple [d1, d2]) = false := fun z => by
          cases d1 with
          | int i => simp only [isNumD, decide_eq_false_iff_not] at z; simp [okRow, z]
          | _ => rfl
        cases hn : isNumD d1 with
        | false => exact iteT (iteT (no S (n1 hn)))
        | true =>
          cases q1 with
          | int i =>
            refine iteF ⟨_, rfl, a, _, 0, .int i, rfl, rfl, e', rfl, _, rfl, i, l, rfl, rfl, _, rfl, ?_⟩
            simp only [isNumD, decide_eq_true_eq] at hn
            refine ite2 (fun z => ?_) (fun z => ?_)
            · have hil := of_decide_eq_true z
              exact no S (by simp [okRow]; omega)
            · have hil : ¬ i ≤ l := fun h => z (decide_eq_true h)
              have er : okRow l (.tuple [.int i, d2]) = okEnd i d2 := by
                have h1 : l < i := by omega
                simp [okRow, hn, h1]
              rw [er] at k
              refine ⟨_, rfl, a, _, 1, x2, rfl, rfl, e', rfl, rfl, _, rfl, ?_⟩
              have q3 := q2.ext (Sub.of S)
              cases q2 with
              | non => exact iteT (k _ S)
              | int j => exact iteF ⟨_, rfl, a, _, 1, _, rfl, rfl, e', rfl, _, _, rfl, .int j, _, rfl, iteT ⟨_, rfl, a, _, 1, _, rfl, rfl, e', rfl, _, rfl, a, _, 0, _, rfl, rfl, e', rfl, j, i, rfl, rfl, k _ S⟩⟩
              | _ => exact iteF ⟨_, rfl, a, _, 1, _, rfl, rfl, e', rfl, _, _, rfl, q3, _, rfl, iteF (k _ S)⟩
          | _ => cases hn
    | _ => exact iteT (iteT (no S rfl))
end
end K7
end

section
set_option Elab.async false
set_option linter.all false
set_option maxRecDepth 100000
set_option maxHeartbeats 4000000
/-! A heap without one address; comprehensions by data; need_stretches. -/
namespace K7
open PySem L2
/-! ### a heap without the object at p -/
def off (p : Addr) (H : Hp) : Hp := fun b => if b = p then none else H b
theorem off_ne {p b : Addr} {H : Hp} (h : b ≠ p) : off p H b = H b := by unfold off; rw [if_neg h]
theorem off_at {p : Addr} {H : Hp} : off p H p = none := by unfold off; rw [if_pos rfl]
theorem off_le {p : Addr} {H : Hp} : Same (off p H) H := fun b o h => by
  unfold off at h
  by_cases z : b = p
  · rw [if_pos z] at h; cases h
  · rw [if_neg z] at h; exact h
theorem off_sub {p : Addr} {H : Hp} : Sub (off p H) H := Sub.of off_le
theorem off_none {p : Addr} {H : Hp} (h : H p = none) : off p H = H := by
  funext b
  unfold off
  by_cases z : b = p
  · rw [if_pos z, z, h]
  · rw [if_neg z]
theorem off_upd {p : Addr} {H : Hp} {o : HO} : off p (upd H p o) = off p H := by
  funext b
  unfold off
  by_cases z : b = p
  · rw [if_pos z, if_pos z]
  · rw [if_neg z, if_neg z, upd_ne z]
theorem off_updne {p q : Addr} {H : Hp} {o : HO} (h : q ≠ p) : off p (upd H q o) = upd (off p H) q o := by
  funext b
  unfold off
  by_cases z : b = p
  · rw [if_pos z, upd_ne (by rw [z]; exact Ne.symm h), if_pos z]
  · rw [if_neg z]
    by_cases y : b = q
    · rw [y, upd_same, upd_same]
    · rw [upd_ne y, upd_ne y, if_neg z]
theorem off_mono {p : Addr} {H H' : Hp} (h : Same H H') : Same (off p H) (off p H') := fun b o e => by
  unfold off at e ⊢
  by_cases z : b = p
  · rw [if_pos z] at e; cases e
  · rw [if_neg z] at e ⊢
    exact h _ _ e
mutual
def noList : PyData → Bool
  | .list _ => false
  | .tuple ds => noListAll ds
  | .dict _ => false
  | _ => true
def noListAll : List PyData → Bool
  | [] => true
  | d :: ds => noList d && noListAll ds
end
mutual
theorem Dv.off {H : Hp} {p : Addr} {zs : List V} (hp : H p = some (.lst zs)) : ∀ {v : V} {d : PyData}, Dv H v d → noList d = true → Dv (off p H) v d
  | _, _, .non, _ => .non
  | _, _, .bl b, _ => .bl b
  | _, _, .int i, _ => .int i
  | _, _, .str x, _ => .str x
  | _, _, .lst h r, z => by simp [noList] at z
  | _, _, .tup (a := a) h r, z => .tup (by rw [off_ne (fun e => by rw [e, hp] at h; cases h)]; exact h) (DvAll.off hp r (by simpa [noList] using z))
theorem DvAll.off {H : Hp} {p : Addr} {zs : List V} (hp : H p = some (.lst zs)) : ∀ {vs : List V} {ds : List PyData}, DvAll H vs ds → noListAll ds = true → DvAll (off p H) vs ds
  | _, _, .nil, _ => .nil
  | _, _, .cons a r, z => by
    simp only [noListAll, Bool.and_eq_true] at z
    exact .cons (Dv.off hp a z.1) (DvAll.off hp r z.2)
end
theorem noList_row (r : Row) : noList (rowD r) = true := by
  obtain ⟨i, o⟩ := r
  cases o <;> simp [rowD, optD, noList, noListAll]
theorem noList_rows : ∀ rs : List Row, noListAll (rs.map rowD) = true
  | [] => rfl
  | r :: rs => by simp only [List.map_cons, noListAll, noList_row, noList_rows rs, Bool.and_self]
/-! ### a comprehension by data -/
theorem lc_dv {J : It} {g : TG} {tt : TT} {te : TE} {vs : List Nat} {σ : St} {H1 : Hp} {D : Addr} {QD : Hp → Prop} (n : Nat) (out : Nat → List PyData) (hD : H1 D = none) (h0 : out 0 = []) (hlen : ∀ i, i < n → (out i).length < sizeLine)
    (hgo : ∀ i H, i < n → Same H1 H → J.go i H) (hstop : ∀ H, Same H1 H → J.stop n H)
    (turn : ∀ i H x H' acc (N : Hp → Prop), i < n → Same H1 H → H D = some (.lst acc) → J.yld i H x H' →
      (∀ H4 y d, Same H H4 → Dv (off D H4) y d → out (i + 1) = out i ++ [d] → ∃ acc, H4 D = some (.lst acc) ∧ acc.length < sizeLine ∧ N (upd H4 D (.lst (acc ++ [y])))) → (∀ H3, Same H H3 → out (i + 1) = out i → N H3) →
      g x (wipe σ vs) H' fun σ2 H2 => wipe σ2 vs = wipe σ vs ∧ tt σ2 H2 fun b H3 => if b = true then te σ2 H3 fun y H4 => ∃ acc, H4 D = some (.lst acc) ∧ acc.length < sizeLine ∧ N (upd H4 D (.lst (acc ++ [y]))) else N H3)
    (hd : ∀ H xs, Same H1 H → H D = some (.lst xs) → DvAll (off D H) xs (out n) → QD H) :
    ∃ W : Nat → Nat → Hp → Prop, (∃ m, W 0 m (upd H1 D (.lst []))) ∧ ∀ i m H, W i m H →
      (J.stop i H ∧ QD H) ∨ (J.go i H ∧ ∃ Nx : Hp → Prop, (∀ H', Nx H' → ∃ m', m' < m ∧ W (i + 1) m' H') ∧ ∀ x H', J.yld i H x H' → g x (wipe σ vs) H' fun σ2 H2 => wipe σ2 vs = wipe σ vs ∧ tt σ2 H2 fun b H3 =>
        if b = true then te σ2 H3 fun y H4 => ∃ acc, H4 D = some (.lst acc) ∧ acc.length < sizeLine ∧ Nx (upd H4 D (.lst (acc ++ [y]))) else Nx H3) := by
  refine lc_by (Q := fun _ H => QD H) n (fun i H => Same H1 H ∧ ∃ acc, H D = some (.lst acc) ∧ DvAll (off D H) acc (out i)) ⟨Same.new hD, [], upd_same, by rw [h0]; exact .nil⟩ (fun i H hi p => hgo i H hi p.1) (fun H p => hstop H p.1) (fun i H x H' hi p y => ?_) (fun H p => ?_)
  · obtain ⟨p, acc, ha, hv⟩ := p
    refine turn i H x H' acc _ hi p ha y (fun H4 y d S dv e => ?_) (fun H3 S e => ?_)
    · have a4 := S _ _ ha
      refine ⟨acc, a4, by rw [hv.length]; exact hlen i hi, fun b o h => ?_, _, upd_same, ?_⟩
      · rw [upd_ne (ne_of_none h hD)]
        exact S _ _ (p _ _ h)
      · rw [off_upd, e]
        exact (hv.ext (Sub.of (off_mono S))).snoc dv
    · exact ⟨p.trans S, acc, S _ _ ha, by rw [e]; exact hv.ext (Sub.of (off_mono S))⟩
  · obtain ⟨p, acc, ha, hv⟩ := p
    exact hd H acc p ha hv
/-! ### walks over a list or a tuple -/
/-- the list or tuple at a -/
def Sq (H : Hp) (a : Addr) (xs : List V) : Prop := H a = some (.lst xs) ∨ H a = some (.tup xs)
theorem Sq.same {H H' : Hp} {a : Addr} {xs : List V} (h : Sq H a xs) (S : Same H H') : Sq H' a xs := h.imp (S _ _) (S _ _)
theorem Dv.sq {H : Hp} {v : V} {d : PyData} {ds : List PyData} (h : Dv H v d) (e : itemsD d = some ds) : ∃ a xs, v = .ref a ∧ Sq H a xs ∧ DvAll H xs ds := by
  cases h with
  | lst h r =>
    cases e
    exact ⟨_, _, rfl, .inl h, r⟩
  | tup h r =>
    cases e
    exact ⟨_, _, rfl, .inr h, r⟩
  | _ => cases e
theorem isSeqD_items (d : PyData) : isSeqD d = (itemsD d).isSome := by cases d <;> rfl
/-- an enumerate's walk -/
structure WkE (J : It) (xs : List V) (S : Hp → Prop) : Prop where
  go : ∀ i H, S H → i < xs.length → J.go i H
  stop : ∀ H, S H → J.stop xs.length H
  yld : ∀ i H x H', S H → J.yld i H x H' → ∃ T v, x = .ref T ∧ H T = none ∧ H' = upd H T (.tup [.int (i : Nat), v]) ∧ xs[i]? = some v
theorem wkE_list {K : PySem.W.Frag} {a : Addr} {xs : List V} : WkE (Ite K a) xs fun H => H a = some (.lst xs) :=
  ⟨fun i H s hi => ⟨xs, xs[i], SqL.of s, List.getElem?_eq_getElem hi⟩, fun H s => ⟨xs, SqL.of s, Nat.le_refl _⟩, fun i H x H' s ⟨T, v, a, b, c, d⟩ => ⟨T, v, a, b, c, d xs (SqL.of s)⟩⟩
theorem wkE_tup {K : PySem.W.Frag} {a : Addr} {xs : List V} : WkE (ItEt K a) xs fun H => H a = some (.tup xs) :=
  ⟨fun i H s hi => ⟨xs, xs[i], SqT.of s, List.getElem?_eq_getElem hi⟩, fun H s => ⟨xs, SqT.of s, rfl⟩, fun i H x H' s ⟨T, v, a, b, c, d⟩ => ⟨T, v, a, b, c, d xs (SqT.of s)⟩⟩
/-- a plain walk -/
structure Wk (J : It) (xs : List V) (S : Hp → Prop) : Prop where
  go : ∀ i H, S H → i < xs.length → J.go i H
  stop : ∀ H, S H → J.stop xs.length H
  yld : ∀ i H x H', S H → J.yld i H x H' → H' = H ∧ xs[i]? = some x
theorem wk_list {K : PySem.W.Frag} {a : Addr} {xs : List V} : Wk (Itl K a) xs fun H => H a = some (.lst xs) :=
  ⟨fun i H s hi => ⟨xs, xs[i], SqL.of s, List.getElem?_eq_getElem hi⟩, fun H s => ⟨xs, SqL.of s, Nat.le_refl _⟩, fun i H x H' s ⟨a, d⟩ => ⟨a, d xs (SqL.of s)⟩⟩
theorem wk_tup {K : PySem.W.Frag} {a : Addr} {xs : List V} : Wk (Itt K a) xs fun H => H a = some (.tup xs) :=
  ⟨fun i H s hi => ⟨xs, xs[i], SqT.of s, List.getElem?_eq_getElem hi⟩, fun H s => ⟨xs, SqT.of s, Nat.le_refl _⟩, fun i H x H' s ⟨a, d⟩ => ⟨a, d xs (SqT.of s)⟩⟩
section
open PySem.Spec PyProof.Rows
variable {X : Cx} {tg e : Expr}
/-- enumerate(a list or a tuple) -/
theorem Sq.eq {H H1 H2 : Hp} {a : Addr} {xs : List V} (h : Sq H a xs) (S1 : Same H H1) (S2 : Same H H2) : H2 a = H1 a := by
  rcases h with h | h <;> rw [S1 _ _ h, S2 _ _ h]
def iEnumS (ta : TA) : TI := fun σ H R => ta σ H fun vs H1 => ∃ a xs, vs = [.ref a] ∧ Sq H1 a xs ∧ ∀ J, WkE J xs (fun H' => H' a = H1 a) → R J H1
def iSeqS (te : TE) : TI := fun σ H R => te σ H fun x H1 => ∃ a xs, x = .ref a ∧ Sq H1 a xs ∧ ∀ J, Wk J xs (fun H' => H' a = H1 a) → R J H1
theorem WkE.of {J : It} {xs : List V} {S S' : Hp → Prop} (k : WkE J xs S) (h : ∀ H, S' H → S H) : WkE J xs S' := ⟨fun i H s => k.go i H (h H s), fun H s => k.stop H (h H s), fun i H x H' s => k.yld i H x H' (h H s)⟩
theorem Wk.of {J : It} {xs : List V} {S S' : Hp → Prop} (k : Wk J xs S) (h : ∀ H, S' H → S H) : Wk J xs S' := ⟨fun i H s => k.go i H (h H s), fun H s => k.stop H (h H s), fun i H x H' s => k.yld i H x H' (h H s)⟩
theorem pi_seqS {l : Expr} {tl : TE} (hl : PE X l tl) : PI X tg l (iSeqS tl) := by
  refine ⟨fun pins s σ H R I h => ?_⟩
  refine thn (hl.run pins s σ H _ I h) fun v s1 ⟨x, H1, I1, r1, q1⟩ => ?_
  obtain ⟨a, xs, e, hq, q⟩ := q1
  subst e
  cases r1
  rcases hq with hq | hq
  · obtain ⟨its, rv, p, hz⟩ := I1.list (SqL.of hq)
    refine wpAny_pyIter_list p.isList ?_
    refine ⟨s1.heap.objs.size, [s1.heap.objs.size], _, _, H1, rfl, I1.kept (t' := s1.toks) fun b o e => Heap.get?_push_of_some _ e, turn_list a _, ⟨_, Heap.get?_push_size _ rfl, rfl, rfl⟩, fun b hb => ?_, q _ (wk_list.of fun H e => e.trans hq)⟩
    have e : b = s1.heap.objs.size := by simpa using hb
    subst e
    exact I1.fpOk (Nat.le_refl _) (I1.hok.fresh (Nat.le_refl _))
  · obtain ⟨its, rv, p, hz⟩ := I1.tuple (SqT.of hq)
    refine wpAny_pyIter_tuple (show s1.heap.IsTuple a its.toArray from p) ?_
    refine ⟨s1.heap.objs.size, [s1.heap.objs.size], _, _, H1, rfl, I1.kept (t' := s1.toks) fun b o e => Heap.get?_push_of_some _ e, turn_tuple a _, ⟨_, Heap.get?_push_size _ rfl, rfl, rfl⟩, fun b hb => ?_, q _ (wk_tup.of fun H e => e.trans hq)⟩
    have e : b = s1.heap.objs.size := by simpa using hb
    subst e
    exact I1.fpOk (Nat.le_refl _) (I1.hok.fresh (Nat.le_refl _))
theorem pi_enumS {e : Expr} {ta : TA} {p pos tpos : Pos} {elts : List Expr} {kk : Nat} (hg : Gl X "enumerate") (hm : X.mg "enumerate" = none) (ha : PA X [e] ta) (hs : starEach [e] X.env = [(false, eval e X.env)] := by rfl) :
    PI X (.Tuple elts kk tpos) (.Call (.Name "enumerate" p) [e] [] pos) (iEnumS ta) := by
  refine ⟨fun pins s σ H R I h => ?_⟩
  refine Call_ (ld_blt I hg hm boot_enumerate (PyProof.Rows.callWith_type1 (thn (ha.run pos pins s σ H _ I h) fun us s1 ⟨vs, H1, I1, r1, q1⟩ => ?_) hs rfl))
  obtain ⟨a, xs, ex, hq, q⟩ := q1
  subst ex
  obtain ⟨u, rfl, r⟩ := vals1 r1
  cases (show u = Value.ref a from r)
  rcases hq with hq | hq
  · obtain ⟨its, rv, p', hz⟩ := I1.list (SqL.of hq)
    refine call_enumerate_list p'.isList fun h' he hit hsz hk => wpAny_pyIter_enum he ?_
    have I2 : Inv X pins σ H1 { s1 with heap := h' } := I1.kept (t' := s1.toks) hk
    refine ⟨s1.heap.objs.size + 1, [s1.heap.objs.size + 1, s1.heap.objs.size], _, _, H1, rfl, I2, turn_enum a (s1.heap.objs.size + 1) s1.heap.objs.size, ⟨⟨.none, he⟩, hit, Nat.succ_ne_self _⟩, fun b hb => ?_, q _ (wkE_list.of fun H e => e.trans hq)⟩
    have e' : b = s1.heap.objs.size + 1 ∨ b = s1.heap.objs.size := by simpa using hb
    have hle : s1.heap.objs.size ≤ b := by
      rcases e' with z | z
      · rw [z]; exact Nat.le_add_right _ _
      · rw [z]; exact Nat.le_refl _
    exact I1.fpOk hle (I1.hok.fresh hle)
  · obtain ⟨its, rv, p', hz⟩ := I1.tuple (SqT.of hq)
    have hlt : a < s1.heap.objs.size := p'.lt
    refine call_enumT (show s1.heap.IsTuple a its.toArray from p') fun h' he hit hk => wpAny_pyIter_enum he ?_
    refine ⟨s1.heap.objs.size + 1, [s1.heap.objs.size + 1, s1.heap.objs.size], _, _, H1, rfl, I1.kept (t' := s1.toks) hk, turn_enumT a (s1.heap.objs.size + 1) s1.heap.objs.size, ⟨⟨.none, he⟩, hit, Nat.succ_ne_self _, Nat.ne_of_lt hlt, Nat.ne_of_lt (Nat.lt_succ_of_lt hlt)⟩, fun b hb => ?_, q _ (wkE_tup.of fun H e => e.trans hq)⟩
    have hle : s1.heap.objs.size ≤ b := by
      rcases (show b = s1.heap.objs.size + 1 ∨ b = s1.heap.objs.size by simpa using hb) with z | z
      · rw [z]; exact Nat.le_add_right _ _
      · rw [z]; exact Nat.le_refl _
    exact I1.fpOk hle (I1.hok.fresh hle)
end
/-! ### need_stretches -/
abbrev rTupT (K : PySem.W.Frag) : List V → Hp → VK → Prop := fun xs H Q => ∃ a ys, xs = [.ref a] ∧ SqT K H a ys ∧ Q (.ref a) H
abbrev rTupL (K : PySem.W.Frag) : List V → Hp → VK → Prop := fun xs H Q => ∃ p ys, xs = [V.ref p] ∧ ((SqL K H p ys ∧ ∀ l, H l = none → Q (V.ref l) (upd H l (HO.tup ys))) ∨ SqT K H p ys ∧ Q (V.ref p) H)
theorem cr_tupT {X : Cx} : CallR X (.type "tuple") (rTupT X.K) := call_tupleT
theorem cr_tupL {X : Cx} : CallR X (.type "tuple") (rTupL X.K) := call_tuple_of
theorem okFrom_rows : ∀ {ds : List PyData} {o : Option Int}, okFrom o ds = true → (ds.map unrow).map rowD = ds
  | [], _, _ => rfl
  | d :: ds, none, h => by cases h
  | d :: ds, some l, h => by
    simp only [okFrom, Bool.and_eq_true] at h
    obtain ⟨r, e1, e2, _⟩ := okRow_form h.1
    have ih := okFrom_rows h.2
    rw [List.map_cons, List.map_cons, ih, e2, ← e1]
theorem optV_isN {o : Option Int} (h : o ≠ none) : decide (optV o = V.non) = false := by cases o with | none => exact absurd rfl h | some i => exact decide_eq_false fun z => by cases z
def spNeed (C1 : Addr) : Sp := fun vs H Q E => ∃ v x d, vs = [v, .int x] ∧ Dv H v d ∧ plainRows d ∧ (∀ rs, needRows d = some rs → ∀ p H', Same H H' → Dv H' (.ref p) (.tuple (rs.map rowD)) → Q (.ref p) H') ∧
  (needRows d = none → ∀ H', Same H H' → Rs C1 "at" (.int x) H' E)
abbrev nNeed : List Str := ["value", "at", "last", "spot", "row"]
theorem scNeed : FnScope nNeed ["value", "at"] (defScope sNeed) := ⟨rfl, rfl, rfl, by decide +kernel, rfl, by decide +kernel, by decide +kernel⟩
section
variable {P : Program} {w : World} {K : PySem.W.Frag} {mg : Str → Option Value} {base : Heap} {C1 C2 fI1 fI2 : Addr}
theorem nd5 : (nNeed).Nodup := by decide +kernel
theorem ok_need_stretches {f : Addr} {fd : FuncData} (F : FnP K "need_stretches" sNeed [.int (-1)] f fd) (cS : Fn7 P w K mg base CX0 1 "is_sequence" spIsSeq []) (cT : Fn7 P w K mg base CX0 3 "is_stretch" spStr [])
    (T1 : PySem.ErrX.OwnTxt P K mg "InvalidStretches" sE1 "at" C1 fI1) (B : Blt mg) :
    FnOk P w K mg base (L2.CX P w) 4 f fd ["value", "at"] (spNeed C1) := by
  refine F.ok scNeed (fun vs H Q E h => ?_) (fun cdv A outer s H vs Q E hr h => ?_)
  · obtain ⟨v, x, d, rfl, _⟩ := h
    rfl
  · obtain ⟨v, x, d, rfl, hv, hp, k1, k2⟩ := h
    refine ⟨_, pss_cons (ps_if (pt_not (pt_val (pe_f cS hr (by decide) (by rfl) (pa_cons (pv 0) pa_nil)))) (pss_one (ps_raiseOwn rfl T1 hr (takes_of rfl rfl rfl rfl) (pa_cons (pv 1) pa_nil) (by rfl))) pss_nil)
      (pss_cons (ps_set (i := 2) nd5 rfl (Or.inl rfl) (pe_un un_neg pe_int))
      (pss_cons (ps_for (passes_of rfl) rfl (pi_enumS (by rfl) B.enumerate (pa_cons (pv 0) pa_nil))
          (pg_tup rfl (pgs_cons (pg_name (i := 3) nd5 rfl (Or.inl rfl)) (pgs_cons (pg_name (i := 4) nd5 rfl (Or.inl rfl)) pgs_nil)))
        (pss_cons (ps_if (pw_or (pt_cmpR op_isN (pv 2) pe_non (nomark _)) (pw_or1 (pt_not (pt_val (pe_f cT hr (by decide) (by rfl) (pa_cons (pv 4) (pa_cons (pv 2) pa_nil))))))).pt
            (pss_one (ps_raiseOwn rfl T1 hr (takes_of rfl rfl rfl rfl) (pa_cons (pv 1) pa_nil) (by rfl))) pss_nil)
          (pss_one (ps_set (i := 2) nd5 rfl (Or.inl rfl) (pe_ix ix_tup (pv 4) pe_int (fun _ _ => rfl))))))
      (pss_one (ps_ret (pe_callTy cr_tupL (by rfl) B.tuple boot_tuple (pa_cons (pe_lc (te := tCB (rTupT K) (tCons (tVar 4) tNil)) (own := [("row", 4)]) (g := gName 4) rfl nd5 (pi_seqS (pv 0)) (blkOk_by (own := [("row", 4)]) (N := nNeed) (sc := defScope sNeed) (by decide +kernel))
          (fun _ _ _ _ _ => pg_name (i := 4) nd5 rfl (Or.inl rfl)) (fun _ _ _ _ _ => pts_nil)
          (fun _ _ _ _ _ => pe_callTy cr_tupT (by rfl) B.tuple boot_tuple (pa_cons (pv 4) pa_nil))) pa_nil)))))), ?_⟩
    refine ⟨_, rfl, v, d, rfl, hv, fun H' S => ⟨_, rfl, ?_⟩⟩
    rw [isSeqD_items]
    cases hi : itemsD d with
    | none => exact iteT ⟨_, rfl, _, rfl, k2 (by unfold needRows; rw [hi]) _ S⟩
    | some ds =>
      obtain ⟨hlen, hnl⟩ := hp ds hi
      obtain ⟨a, xs, rfl, hs, hxs⟩ := hv.sq hi
      have hxl := hxs.length
      have enr : needRows d = if okFrom (some (-1)) ds then some (ds.map unrow) else none := by unfold needRows; rw [hi]
      refine iteF ⟨1, rfl, ?_⟩
      refine ⟨_, rfl, a, xs, rfl, hs.same S, fun J wk => ?_⟩
      refine for_by xs.length (fun i σ H2 => Same H H2 ∧ ∃ o j1 j2, σ = [some (.ref a), some (.int x), some (optV o), j1, j2] ∧ okFrom o (ds.drop i) = okFrom (some (-1)) ds) ⟨S, some (-1), none, none, rfl, rfl⟩
        (fun i σ H2 hi p => wk.go i H2 ?_ hi) (fun σ H2 p => wk.stop H2 ?_) (fun i σ H2 y H3 hi p yl => ?_) (fun σ H2 p => ?_)
      · exact hs.eq S p.1
      · exact hs.eq S p.1
      · obtain ⟨p1, o, j1, j2, rfl, po⟩ := p
        obtain ⟨T, v, rfl, hT, rfl, hv'⟩ := wk.yld i H2 _ _ (hs.eq S p1) yl
        obtain ⟨dd, hdd, dv⟩ := hxs.get hv'
        have hdr : ds.drop i = dd :: ds.drop (i + 1) := by
          have hl : i < ds.length := by omega
          rw [List.drop_eq_getElem_cons hl]
          rw [List.getElem?_eq_getElem hl] at hdd
          rw [Option.some.inj hdd]
        have S3 := p1.trans (Same.new (o := .tup [.int (i : Nat), v]) hT)
        refine ⟨T, _, rfl, SqT.of upd_same, rfl, _, _, rfl, _, _, rfl, rfl, ?_⟩
        refine ⟨_, rfl, rfl, _, rfl, ?_⟩
        have bad : okFrom o (ds.drop i) = false → needRows d = none := fun z => by rw [enr, ← po, z]; rfl
        cases o with
        | none => exact iteT (iteT ⟨_, rfl, _, rfl, k2 (bad (by rw [hdr]; rfl)) _ S3⟩)
        | some l =>
          refine iteF ⟨_, rfl, _, rfl, v, dd, l, rfl, dv.ext (Sub.of S3), hnl dd (List.mem_of_getElem? hdd), fun H4 S4 => ⟨_, rfl, ?_⟩⟩
          cases hok : okRow l dd with
          | false => exact iteT ⟨_, rfl, _, rfl, k2 (bad (by rw [hdr]; simp only [okFrom, hok, Bool.false_and])) _ (S3.trans S4)⟩
          | true =>
            obtain ⟨r, e1, e2, _⟩ := okRow_form hok
            subst e1
            obtain ⟨ra, rfl, hra⟩ := dv.row
            refine iteF ⟨_, rfl, ra, _, 1, _, rfl, rfl, SqT.of (S4 _ _ (S3 _ _ hra)), rfl, S3.trans S4, r.2, _, _, rfl, ?_⟩
            rw [← po, hdr]
            simp only [okFrom, hok, Bool.true_and, e2]
      · obtain ⟨p1, o, j1, j2, rfl, po⟩ := p
        have hall : okFrom (some (-1)) ds = true := by
          rw [← po, hxl, List.drop_length]
          cases o <;> rfl
        have hrs := okFrom_rows hall
        refine ⟨_, rfl, a, xs, rfl, hs.same p1, fun J2 wk2 D hD => ?_⟩
        refine lc_dv xs.length (fun i => ds.take i) hD (by simp) (fun i hi => ?_) (fun i H3 hi S3 => wk2.go i H3 (hs.eq p1 (p1.trans S3)) hi) (fun H3 S3 => wk2.stop H3 (hs.eq p1 (p1.trans S3))) (fun i H3 y H4 acc N hi S3 ha yl hN hS => ?_) (fun H3 zs S3 hD3 hz => ?_)
        · rw [List.length_take]
          exact small1000 (by omega)
        · obtain ⟨rfl, hy⟩ := wk2.yld i H3 _ _ (hs.eq p1 (p1.trans S3)) yl
          obtain ⟨dd, hdd, dv⟩ := hxs.get hy
          have hm : dd ∈ ds := List.mem_of_getElem? hdd
          rw [← hrs] at hm
          obtain ⟨r, _, rfl⟩ := List.mem_map.mp hm
          obtain ⟨ra, rfl, hra⟩ := dv.row
          refine ⟨rfl, ?_⟩
          unfold tYes
          refine iteT ⟨_, rfl, ra, _, rfl, SqT.of ((p1.trans S3) _ _ hra), ?_⟩
          refine hN _ _ (rowD r) (Same.refl _) (Dv.off ha (dv.ext (Sub.of (p1.trans S3))) (noList_row r)) ?_
          rw [List.take_add_one, hdd]
          rfl
        · refine ⟨D, zs, rfl, .inl ⟨SqL.of hD3, fun p hp => ?_⟩⟩
          have S5 := (p1.trans S3).trans (Same.new (o := .tup zs) hp)
          refine k1 (ds.map unrow) (by rw [enr, hall]; rfl) p _ S5 (.tup upd_same ?_)
          rw [hrs]
          have : ds.take xs.length = ds := by rw [hxl, List.take_length]
          rw [this] at hz
          exact (hz.ext off_sub).ext (Sub.new hp)
end
end K7
end

section
set_option Elab.async false
set_option linter.all false
set_option maxRecDepth 100000
set_option maxHeartbeats 4000000
/-! room_at, is_free_at, need_ticks, lesser_end. -/
namespace K7
open PySem L2
/-! ### what they compute -/
def has1 (r : Row) (t : Int) : Bool := decide (r.1 ≤ t) && (match r.2 with
  | none => true
  | some e => decide (t < e))
def hit (rs : List Row) (t : Int) (i : Nat) : Bool := match rs[i]? with
  | some r => has1 r t
  | none => false
def hits (rs : List Row) (t : Int) : List Nat := (List.range rs.length).filter (hit rs t)
def roomAt (rs : List Row) (t : Int) : Option Int := match hits rs t with
  | [] => none
  | n :: _ => some (n : Int)
def hitsTo (rs : List Row) (t : Int) (i : Nat) : List PyData := ((List.range i).filter (hit rs t)).map fun n : Nat => PyData.int (n : Int)
theorem hitsTo_succ (rs : List Row) (t : Int) (i : Nat) : hitsTo rs t (i + 1) = if hit rs t i = true then hitsTo rs t i ++ [PyData.int (i : Int)] else hitsTo rs t i := by
  unfold hitsTo
  rw [List.range_succ, List.filter_append, List.map_append]
  by_cases h : hit rs t i = true
  · rw [if_pos h]
    simp [h]
  · rw [if_neg h]
    simp [h]
theorem hitsTo_len (rs : List Row) (t : Int) (i : Nat) : (hitsTo rs t i).length ≤ i := by
  unfold hitsTo
  rw [List.length_map]
  exact Nat.le_trans (List.length_filter_le _ _) (Nat.le_of_eq List.length_range)
def intD : PyData → Int
  | .int i => i
  | _ => 0
def ticksOf (d : PyData) : Option (List Int) := match itemsD d with
  | some ds => if ds.all isNumD then some (ds.map intD) else none
  | none => none
def lesser : Option Int → Option Int → Option Int
  | none, b => b
  | some i, none => some i
  | some i, some j => some (if j < i then j else i)
theorem DvAll.to_ints {H : Hp} : ∀ {xs : List V} {ds : List PyData}, DvAll H xs ds → ds.all isNumD = true → xs = (ds.map intD).map V.int
  | _, _, .nil, _ => rfl
  | _, _, .cons (d := d) a r, h => by
    simp only [List.all_cons, Bool.and_eq_true] at h
    rw [List.map_cons, List.map_cons, ← DvAll.to_ints r h.2]
    cases a with
    | int i => rfl
    | _ => cases h.1
theorem DvAll.to_bls {H : Hp} : ∀ {xs : List V} {bs : List Bool}, DvAll H xs (bs.map PyData.bool) → xs = bs.map V.bl
  | _, [], .nil => rfl
  | _, b :: bs, .cons a r => by
    rw [List.map_cons, ← DvAll.to_bls r]
    cases a
    rfl
theorem DvAll.to_intl {H : Hp} : ∀ {xs : List V} {ns : List Int}, DvAll H xs (ns.map PyData.int) → xs = ns.map V.int
  | _, [], .nil => rfl
  | _, b :: bs, .cons a r => by
    rw [List.map_cons, ← DvAll.to_intl r]
    cases a
    rfl
section
variable {P : Program} {w : World} {K : PySem.W.Frag} {mg : Str → Option Value} {base : Heap} {C1 C2 fI1 fI2 : Addr}
theorem b7_min : bootBuiltins "min" = some (.builtin "min") := by decide +kernel
theorem b7_max : bootBuiltins "max" = some (.builtin "max") := by decide +kernel
theorem b7_sorted : bootBuiltins "sorted" = some (.builtin "sorted") := by decide +kernel
theorem b7_all : bootBuiltins "all" = some (.builtin "all") := by decide +kernel
theorem b7_abs : bootBuiltins "abs" = some (.builtin "abs") := by decide +kernel
theorem b7_repr : bootBuiltins "repr" = some (.builtin "repr") := by decide +kernel
theorem b7_set : bootBuiltins "set" = some (.type "set") := by decide +kernel
/-! ### lesser_end -/
def spLess : Sp := fun vs H Q _ => ∃ a b, vs = [optV a, optV b] ∧ Q (optV (lesser a b)) H
theorem scLess : FnScope ["one", "other"] ["one", "other"] (defScope sLess) := ⟨rfl, rfl, rfl, by decide +kernel, rfl, by decide +kernel, by decide +kernel⟩
theorem ok_lesser_end {f : Addr} {fd : FuncData} (F : FnP K "lesser_end" sLess [] f fd) (B : Blt mg) : FnOk P w K mg base CX0 1 f fd ["one", "other"] spLess := by
  refine F.ok scLess (fun vs H Q E h => ?_) (fun cdv A outer s H vs Q E hr h => ?_)
  · obtain ⟨a, b, rfl, _⟩ := h
    rfl
  · obtain ⟨a, b, rfl, k⟩ := h
    refine ⟨_, pss_cons (ps_if (pw_or (pt_cmpR op_isN (pv 0) pe_non (nomark _)) (pw_or1 (pt_cmpR op_isN (pv 1) pe_non (nomark _)))).pt
      (pss_one (ps_ret (pe_ifExp (pt_cmpR op_isN (pv 0) pe_non (nomark _)) (pv 1) (pv 0)))) pss_nil) (pss_one (ps_ret (pe_callB (call_min2 rfl) (by rfl) B.min b7_min (pa_cons (pv 0) (pa_cons (pv 1) pa_nil))))), ?_⟩
    refine ⟨_, rfl, rfl, _, rfl, ?_⟩
    cases a with
    | none => exact iteT (iteT ⟨_, rfl, rfl, _, rfl, iteT ⟨_, rfl, k⟩⟩)
    | some i =>
      refine iteF ⟨_, rfl, rfl, _, rfl, ?_⟩
      cases b with
      | none => exact iteT ⟨_, rfl, rfl, _, rfl, iteF ⟨_, rfl, k⟩⟩
      | some j => exact iteF ⟨_, rfl, _, rfl, i, j, rfl, k⟩
/-! ### room_at, is_free_at -/
def spRoom (C1 C2 : Addr) : Sp := fun vs H Q E => ∃ v vt d dt, vs = [v, vt] ∧ Dv H v d ∧ Dv H vt dt ∧ plainRows d ∧ (∀ rs i, needRows d = some rs → dt = .int i → 0 ≤ i → ∀ H', Same H H' → Q (optV (roomAt rs i)) H') ∧
  (needRows d = none → ∀ H', Same H H' → Rs C1 "at" (.int (-1)) H' E) ∧ (∀ rs, needRows d = some rs → isNumD dt = false → ∀ H', Same H H' → Rs C2 "word" (.str "tick") H' E)
abbrev nRoom : List Str := ["stretches", "tick", "found", "number", "begin", "end"]
theorem ndRoom : nRoom.Nodup := by decide +kernel
theorem scRoom : FnScope nRoom ["stretches", "tick"] (defScope sRoom) := ⟨rfl, rfl, rfl, by decide +kernel, rfl, by decide +kernel, by decide +kernel⟩
theorem needRows_len {d : PyData} {rs : List Row} (h : needRows d = some rs) (hp : plainRows d) : rs.length ≤ 1000 := by
  unfold needRows at h
  cases e : itemsD d with
  | none => rw [e] at h; cases h
  | some ds =>
    rw [e] at h
    simp only at h
    split at h
    · rw [← Option.some.inj h, List.length_map]
      exact (hp ds e).1
    · cases h
theorem ok_room_at {f : Addr} {fd : FuncData} (F : FnP K "room_at" sRoom [] f fd) (cN : Fn7 P w K mg base (L2.CX P w) 4 "need_stretches" (spNeed C1) [.int (-1)]) (cT : Fn7 P w K mg base (L2.CX P w) 4 "need_tick" (spTick C2) []) (B : Blt mg) :
    FnOk P w K mg base (L2.CX P w) 5 f fd ["stretches", "tick"] (spRoom C1 C2) := by
  refine F.ok scRoom (fun vs H Q E h => ?_) (fun cdv A outer s H vs Q E hr h => ?_)
  · obtain ⟨v, vt, d, dt, rfl, _⟩ := h
    rfl
  · obtain ⟨v, vt, d, dt, rfl, hv, ht, hp, k1, k2, k3⟩ := h
    refine ⟨_, pss_cons (ps_asg (pe_tup (pa_cons (pe_fx cN hr (by decide) (by rfl) (takes_of rfl rfl rfl rfl) (fun _ _ _ _ h => h) (pa_cons (pv 0) pa_nil)) (pa_cons (pe_fx cT hr (by decide) (by rfl) (takes_of rfl rfl rfl rfl) (fun _ _ _ _ h => h) (pa_cons (pv 1) pa_nil)) pa_nil)))
        (pg_tup rfl (pgs_cons (pg_name (i := 0) ndRoom rfl (Or.inl rfl)) (pgs_cons (pg_name (i := 1) ndRoom rfl (Or.inr rfl)) pgs_nil))))
      (pss_cons (ps_setLc (i := 2) (own := [("number", 3), ("begin", 4), ("end", 5)]) (g := gTup K 2 (gCons (gName 3) (gCons (gTup K 2 (gCons (gName 4) (gCons (gName 5) gNil))) gNil))) rfl ndRoom rfl rfl (sw_true rfl rfl rfl (by decide +kernel))
          (pi_enumS (by rfl) B.enumerate (pa_cons (pv 0) pa_nil)) (blkOk_by (own := [("number", 3), ("begin", 4), ("end", 5)]) (N := nRoom) (sc := defScope sRoom) (by decide +kernel))
          (fun _ _ _ _ _ => pg_tup rfl (pgs_cons (pg_name (i := 3) ndRoom rfl (Or.inl rfl)) (pgs_cons (pg_tup rfl (pgs_cons (pg_name (i := 4) ndRoom rfl (Or.inl rfl)) (pgs_cons (pg_name (i := 5) ndRoom rfl (Or.inl rfl)) pgs_nil))) pgs_nil)))
          (fun _ _ _ _ _ => pts_one (pw_and (pt_cmpR op_le (pv 4) (pv 1) (nomark _)) (pw_and1 (pw_or (pt_cmpR op_isN (pv 5) pe_non (nomark _)) (pw_or1 (pt_cmpR op_lt (pv 1) (pv 5) (nomark _)))).pt)).pt)
          (fun _ _ _ _ _ => pv 3))
      (pss_one (ps_ret (pe_ifExp (pt_cmpR op_gt (pe_callB call_len_seq (by rfl) B.len boot_len (pa_cons (pv 2) pa_nil)) pe_int (nomark _)) (pe_ix ix_list (pv 2) pe_int (fun _ _ => rfl)) pe_non)))), ?_⟩
    refine ⟨_, rfl, v, -1, d, rfl, hv, hp, fun rs hrs p H1 S1 hp1 => ?_, k2⟩
    refine ⟨_, rfl, vt, dt, rfl, ht.ext (Sub.of S1), fun hn => ?_, fun hn => k3 rs hrs hn H1 S1⟩
    obtain ⟨i, rfl, h0⟩ : ∃ i, dt = .int i ∧ 0 ≤ i := by
      cases dt with
      | int i => exact ⟨i, rfl, of_decide_eq_true hn⟩
      | _ => cases hn
    cases ht
    refine ⟨(by show 2 ≤ sizeLine; decide), fun q hq => ?_⟩
    have S2 := S1.trans (Same.new (o := .tup [.ref p, .int i]) hq)
    have hp2 := hp1.ext (Sub.new (o := .tup [.ref p, .int i]) hq)
    refine ⟨q, _, rfl, SqT.of upd_same, rfl, _, _, rfl, _, _, rfl, rfl, ?_⟩
    obtain ⟨a, xs, ea, hs, hxs⟩ := hp2.sq rfl
    cases ea
    refine ⟨_, rfl, p, xs, rfl, hs, fun J wk D hD => ?_⟩
    have hl : rs.length ≤ 1000 := needRows_len hrs hp
    have hxl := hxs.length
    rw [List.length_map] at hxl
    refine lc_dv xs.length (fun j => hitsTo rs i j) hD rfl (fun j hj => Nat.lt_of_le_of_lt (hitsTo_len rs i j) (small1000 (by omega))) (fun j H3 hj S3 => wk.go j H3 (hs.eq (Same.refl _) S3) hj) (fun H3 S3 => wk.stop H3 (hs.eq (Same.refl _) S3)) (fun j H3 y H4 acc N hj S3 ha yl hN hS => ?_) (fun H3 zs S3 hD3 hz => ?_)
    · obtain ⟨T, v, rfl, hT, rfl, hv'⟩ := wk.yld j H3 _ _ (hs.eq (Same.refl _) S3) yl
      obtain ⟨dd, hdd, dv⟩ := hxs.get hv'
      rw [List.getElem?_map] at hdd
      obtain ⟨r, hr1, hr2⟩ : ∃ r, rs[j]? = some r ∧ rowD r = dd := by
        cases q : rs[j]? with
        | none => rw [q] at hdd; cases hdd
        | some r => rw [q] at hdd; exact ⟨r, rfl, Option.some.inj hdd⟩
      subst hr2
      obtain ⟨ra, rfl, hra⟩ := dv.row
      have S4 := Same.new (o := .tup [.int (j : Nat), .ref ra]) hT
      refine ⟨T, _, rfl, SqT.of upd_same, rfl, _, _, rfl, _, _, rfl, ⟨ra, _, rfl, SqT.of (S4 _ _ (S3 _ _ hra)), rfl, _, _, rfl, _, _, rfl, rfl, rfl, rfl, ?_⟩⟩
      have eh : hit rs i j = has1 r i := by unfold hit; rw [hr1]
      have es := hitsTo_succ rs i j
      rw [eh] at es
      have yes : has1 r i = true → ∃ acc, (upd H3 T (.tup [.int (j : Nat), .ref ra])) D = some (.lst acc) ∧ acc.length < sizeLine ∧ N (upd (upd H3 T (.tup [.int (j : Nat), .ref ra])) D (.lst (acc ++ [.int (j : Nat)]))) := fun z => by
        rw [if_pos z] at es
        exact hN _ _ _ S4 (.int _) es
      have no : ¬ has1 r i = true → N (upd H3 T (.tup [.int (j : Nat), .ref ra])) := fun z => by
        rw [if_neg z] at es
        exact hS _ S4 es
      obtain ⟨b, e⟩ := r
      unfold has1 at yes no
      refine ⟨_, rfl, _, rfl, b, i, rfl, rfl, _, rfl, ?_⟩
      refine ite2 (fun z => ?_) (fun z => ?_)
      · have hb := of_decide_eq_true z
        refine ⟨_, rfl, rfl, _, rfl, ?_⟩
        cases e with
        | none => exact iteT (iteT ⟨_, rfl, yes (by simp [hb])⟩)
        | some e =>
          refine iteF ⟨_, rfl, _, rfl, i, e, rfl, rfl, _, rfl, ite2 (fun z2 => ⟨_, rfl, yes ?_⟩) (fun z2 => no ?_)⟩
          · have := of_decide_eq_true z2
            simp [hb, this]
          · have : ¬ i < e := fun h => z2 (decide_eq_true h)
            simp [hb, this]
      · have hb : ¬ b ≤ i := fun h => z (decide_eq_true h)
        exact iteF (no (by simp [hb]))
    · have ez : zs = ((hits rs i).map fun n : Nat => (n : Int)).map V.int := by
        refine DvAll.to_intl (H := off D H3) ?_
        rw [List.map_map]
        rw [hxl] at hz
        exact hz
      have S4 := S2.trans S3
      refine ⟨_, rfl, D, zs, rfl, .inl (SqL.of hD3), _, _, rfl, rfl, _, rfl, ?_⟩
      have kk := k1 rs i hrs rfl h0 H3 S4
      unfold roomAt at kk
      cases eh : hits rs i with
      | nil =>
        rw [eh] at ez kk
        subst ez
        exact iteF kk
      | cons n l =>
        rw [eh] at ez kk
        subst ez
        refine ite2 (fun z => ⟨_, rfl, D, _, 0, .int n, rfl, rfl, SqL.of hD3, atI_nat (j := 0) rfl, kk⟩) (fun z => absurd (decide_eq_true ?_) z)
        simp only [List.map_cons, List.length_cons]
        omega
def spFree (C1 C2 : Addr) : Sp := fun vs H Q E => ∃ v vt d dt, vs = [v, vt] ∧ Dv H v d ∧ Dv H vt dt ∧ plainRows d ∧ (∀ rs i, needRows d = some rs → dt = .int i → 0 ≤ i → ∀ H', Same H H' → Q (.bl (roomAt rs i).isSome) H') ∧
  (needRows d = none → ∀ H', Same H H' → Rs C1 "at" (.int (-1)) H' E) ∧ isNumD dt = true
theorem scFree : FnScope ["stretches", "tick"] ["stretches", "tick"] (defScope sFree) := ⟨rfl, rfl, rfl, by decide +kernel, rfl, by decide +kernel, by decide +kernel⟩
theorem ok_is_free_at {f : Addr} {fd : FuncData} (F : FnP K "is_free_at" sFree [] f fd) (cR : Fn7 P w K mg base (L2.CX P w) 5 "room_at" (spRoom C1 C2) []) :
    FnOk P w K mg base (L2.CX P w) 6 f fd ["stretches", "tick"] (spFree C1 C2) := by
  refine F.ok scFree (fun vs H Q E h => ?_) (fun cdv A outer s H vs Q E hr h => ?_)
  · obtain ⟨v, vt, d, dt, rfl, _⟩ := h
    rfl
  · obtain ⟨v, vt, d, dt, rfl, hv, ht, hp, k1, k2, k3⟩ := h
    refine ⟨_, pss_one (ps_ret (pe_cmpR op_notN (pe_fx cR hr (by decide) (by rfl) (takes_of rfl rfl rfl rfl) (fun _ _ _ _ h => h) (pa_cons (pv 0) (pa_cons (pv 1) pa_nil))) pe_non (nomark _))), ?_⟩
    refine ⟨_, rfl, _, rfl, v, vt, d, dt, rfl, hv, ht, hp, fun rs i e1 e2 h0 H' S => ⟨rfl, ?_⟩, k2, fun _ _ z => by rw [k3] at z; cases z⟩
    have := k1 rs i e1 e2 h0 H' S
    cases e : roomAt rs i with
    | none => rw [e] at this; exact this
    | some n => rw [e] at this; exact this
/-! ### need_ticks -/
def spTicks (C2 : Addr) : Sp := fun vs H Q E => ∃ v d, vs = [v] ∧ Dv H v d ∧ (∀ ds, itemsD d = some ds → ds.length ≤ 60) ∧
  (∀ ns, ticksOf d = some ns → ∀ (ms : List Int) p H', Same H H' → ms.Pairwise (· < ·) → (∀ k : Int, k ∈ ms ↔ k ∈ ns) → ms.length ≤ 60 → H p = none → H' p = some (.lst (ms.map V.int)) → Q (.ref p) H') ∧
  (ticksOf d = none → ∀ H', Same H H' → Rs C2 "word" (.str "tick") H' E)
abbrev nTicks : List Str := ["value", "tick"]
theorem ndTicks : nTicks.Nodup := by decide +kernel
theorem scTicks : FnScope nTicks ["value"] (defScope sTicks) := ⟨rfl, rfl, rfl, by decide +kernel, rfl, by decide +kernel, by decide +kernel⟩
theorem ok_need_ticks {f : Addr} {fd : FuncData} (F : FnP K "need_ticks" sTicks [] f fd) (cS : Fn7 P w K mg base CX0 1 "is_sequence" spIsSeq []) (cN : Fn7 P w K mg base CX0 2 "is_number" spIsNum []) (T2 : PySem.ErrX.OwnTxt P K mg "InvalidSize" sE2 "word" C2 fI2) (B : Blt mg) :
    FnOk P w K mg base (L2.CX P w) 3 f fd ["value"] (spTicks C2) := by
  refine F.ok scTicks (fun vs H Q E h => ?_) (fun cdv A outer s H vs Q E hr h => ?_)
  · obtain ⟨v, d, rfl, _⟩ := h
    rfl
  · obtain ⟨v, d, rfl, hv, hp, k1, k2⟩ := h
    refine ⟨_, pss_cons (ps_if (pw_or (pt_not (pt_val (pe_f cS hr (by decide) (by rfl) (pa_cons (pv 0) pa_nil)))) (pw_or1 (pt_not (pt_val (pe_callB (cr_all rfl) (by rfl) B.all b7_all (pa_cons (pe_lc (te := tCall spIsNum [] E0 (tCons (tVar 1) tNil)) (own := [("tick", 1)]) (g := gName 1) rfl ndTicks (pi_seqS (pv 0)) (blkOk_by (own := [("tick", 1)]) (N := nTicks) (sc := defScope sTicks) (by decide +kernel))
          (fun _ _ _ _ _ => pg_name (i := 1) ndTicks rfl (Or.inl rfl)) (fun _ _ _ _ _ => pts_nil)
          (fun _ _ _ _ _ => pe_f cN hr (by decide) (by rfl) (pa_cons (pv 1) pa_nil))) pa_nil)))))).pt
        (pss_one (ps_raiseOwn rfl T2 hr (takes_of rfl rfl rfl rfl) (pa_cons pe_str pa_nil) (by rfl))) pss_nil)
      (pss_one (ps_ret (pe_callB (cr_sortedSet rfl) (by rfl) B.sorted b7_sorted (pa_cons (pe_callTy (cr_setOf rfl) (by rfl) B.set b7_set (pa_cons (pv 0) pa_nil)) pa_nil)))), ?_⟩
    refine ⟨_, rfl, v, d, rfl, hv, fun H1 S1 => ⟨_, rfl, ?_⟩⟩
    rw [isSeqD_items]
    cases hi : itemsD d with
    | none => exact iteT (iteT ⟨_, rfl, k2 (by unfold ticksOf; rw [hi]) _ S1⟩)
    | some ds =>
      have hlen := hp ds hi
      obtain ⟨a, xs, rfl, hs, hxs⟩ := hv.sq hi
      have hxl := hxs.length
      refine iteF ⟨_, rfl, a, xs, rfl, hs.same S1, fun J wk D hD => ?_⟩
      refine lc_dv xs.length (fun j => (ds.take j).map fun d => PyData.bool (isNumD d)) hD (by simp) (fun j hj => small1000 (by rw [List.length_map, List.length_take]; omega)) (fun j H3 hj S3 => wk.go j H3 (hs.eq S1 (S1.trans S3)) hj) (fun H3 S3 => wk.stop H3 (hs.eq S1 (S1.trans S3)))
        (fun j H3 y H4 acc N hj S3 ha yl hN hS => ?_) (fun H3 zs S3 hD3 hz => ?_)
      · obtain ⟨rfl, hy⟩ := wk.yld j H3 _ _ (hs.eq S1 (S1.trans S3)) yl
        obtain ⟨dd, hdd, dv⟩ := hxs.get hy
        refine ⟨rfl, ?_⟩
        unfold tYes
        refine iteT ⟨_, rfl, y, dd, rfl, dv.ext (Sub.of (S1.trans S3)), ?_⟩
        refine hN _ _ (.bool (isNumD dd)) (Same.refl _) (.bl _) ?_
        show List.map _ (List.take (j + 1) ds) = _
        rw [List.take_add_one, hdd, List.map_append]
        rfl
      · have et : ds.take xs.length = ds := by rw [hxl, List.take_length]
        have hz' : DvAll (off D H3) zs ((ds.map isNumD).map PyData.bool) := by
          rw [List.map_map]
          have hz2 : DvAll (off D H3) zs ((ds.take xs.length).map fun d => PyData.bool (isNumD d)) := hz
          rw [et] at hz2
          exact hz2
        have ez := hz'.to_bls
        refine ⟨D, ds.map isNumD, rfl, SqL.of (by rw [← ez]; exact hD3), _, rfl, ?_⟩
        have eb : (ds.map isNumD).all id = ds.all isNumD := by rw [List.all_map]; rfl
        rw [eb]
        have etk : ticksOf d = if ds.all isNumD then some (ds.map intD) else none := by unfold ticksOf; rw [hi]
        cases hall : ds.all isNumD with
        | false =>
          rw [hall] at etk
          exact iteT ⟨_, rfl, k2 etk _ (S1.trans S3)⟩
        | true =>
          rw [hall] at etk
          have ex := hxs.to_ints hall
          have hs3 := hs.same (S1.trans S3)
          refine iteF ⟨_, rfl, a, ds.map intD, rfl, ?_, (by rw [List.length_map]; omega), fun q c hq hc => ?_⟩
          · rw [← ex]
            exact hs3.imp SqL.of SqT.of
          · refine ⟨q, _, c, rfl, upd_same, (by rw [List.length_map] at hc; omega), fun ms p h1 h2 h3 h4 => ?_⟩
            have S4 := (S1.trans S3).trans (Same.new (o := SetO w q (fun j => decide (j ∈ ds.map intD)) c) hq)
            refine k1 _ etk ms p _ (S4.trans (Same.new h4)) h1 (fun k => (h2 k).trans (by simp)) (by rw [List.length_map] at hc; omega) (S4.free h4) upd_same
end
end K7
end

section
set_option Elab.async false
set_option linter.all false
set_option maxRecDepth 100000
set_option maxHeartbeats 4000000
/-! free_but, both_free, shorten_ends. -/
namespace K7
open PySem L2
/-- H is G grown, and the list at L that holds ds -/
def Lg (G : Hp) (L : Addr) (H : Hp) (ds : List PyData) : Prop := Same G (off L H) ∧ ∃ acc, H L = some (.lst acc) ∧ DvAll (off L H) acc ds
theorem Lg.start {H : Hp} {L : Addr} (h : H L = none) : Lg H L (upd H L (.lst [])) [] := ⟨by rw [off_upd, off_none h]; exact Same.refl _, [], upd_same, .nil⟩
theorem Lg.grow {G H H' : Hp} {L : Addr} {ds : List PyData} (g : Lg G L H ds) (S : Same H H') : Lg G L H' ds := by
  obtain ⟨a, acc, b, c⟩ := g
  exact ⟨a.trans (off_mono S), acc, S _ _ b, c.ext (Sub.of (off_mono S))⟩
theorem Lg.push {G H : Hp} {L : Addr} {ds : List PyData} {acc : List V} {v : V} {d : PyData} (g : Lg G L H ds) (h : H L = some (.lst acc)) (k : Dv H v d) (n : noList d = true) : Lg G L (upd H L (.lst (acc ++ [v]))) (ds ++ [d]) := by
  obtain ⟨a, acc', b, c⟩ := g
  rw [h] at b
  cases b
  exact ⟨by rw [off_upd]; exact a, _, upd_same, by rw [off_upd]; exact c.snoc (k.off h n)⟩
theorem Lg.put {G H : Hp} {L : Addr} {ds : List PyData} {acc : List V} (g : Lg G L H ds) (h : H L = some (.lst acc)) : Lg G L (upd H L (.lst (acc ++ []))) ds := by
  obtain ⟨a, acc', b, c⟩ := g
  rw [h] at b
  cases b
  rw [List.append_nil]
  exact ⟨by rw [off_upd]; exact a, _, upd_same, by rw [off_upd]; exact c⟩
theorem Lg.fin {G H : Hp} {L p : Addr} {ds : List PyData} {acc : List V} (g : Lg G L H ds) (h : H L = some (.lst acc)) (hp : H p = none) : Dv (upd H p (.tup acc)) (.ref p) (.tuple ds) := by
  obtain ⟨a, acc', b, c⟩ := g
  rw [h] at b
  cases b
  exact .tup upd_same ((c.ext off_sub).ext (Sub.new hp))
theorem Lg.len {G H : Hp} {L : Addr} {ds : List PyData} {acc : List V} (g : Lg G L H ds) (h : H L = some (.lst acc)) : acc.length = ds.length := by
  obtain ⟨a, acc', b, c⟩ := g
  rw [h] at b
  cases b
  exact c.length
theorem Lg.same {G H : Hp} {L : Addr} {ds : List PyData} (g : Lg G L H ds) : Same G H := g.1.trans off_le
/-! ### free_but -/
def below (since : Option Int) (t : Int) : Bool := match since with
  | none => true
  | some s => decide (t < s)
def butStep (since : Option Int) (p : List Row × Int) (t : Int) : List Row × Int := if below since t = true then (if p.2 < t then p.1 ++ [(p.2, some t)] else p.1, t + 1) else p
def butFold (since : Option Int) (ms : List Int) : List Row × Int := ms.foldl (butStep since) ([], 0)
def butRows (ms : List Int) (since : Option Int) : List Row := if below since (butFold since ms).2 = true then (butFold since ms).1 ++ [((butFold since ms).2, since)] else (butFold since ms).1
theorem butFold_succ (since : Option Int) {ms : List Int} {i : Nat} {t : Int} (h : ms[i]? = some t) : butFold since (ms.take (i + 1)) = butStep since (butFold since (ms.take i)) t := by
  unfold butFold
  rw [List.take_add_one, h, List.foldl_append]
  rfl
theorem butFold_len (since : Option Int) (ms : List Int) : (butFold since ms).1.length ≤ ms.length := by
  unfold butFold
  have : ∀ (l : List Int) (p : List Row × Int), (l.foldl (butStep since) p).1.length ≤ p.1.length + l.length := by
    intro l
    induction l with
    | nil => intro p; simp
    | cons t l ih =>
      intro p
      rw [List.foldl_cons]
      refine Nat.le_trans (ih _) ?_
      unfold butStep
      split
      · split <;> simp only [List.length_append, List.length_cons, List.length_nil] <;> omega
      · simp only [List.length_cons]; omega
  have h := this ms ([], 0)
  simpa using h
theorem _root_.L2.PT.imp {X : Cx} {e : Expr} {t t' : TT} (h : PT X e t) (k : ∀ σ H Q, t' σ H Q → t σ H Q) : PT X e t' := ⟨fun pins s σ H Q I q => h.run pins s σ H Q I (k σ H Q q)⟩
theorem _root_.L2.PE.imp {X : Cx} {e : Expr} {t t' : TE} (h : PE X e t) (k : ∀ σ H Q, t' σ H Q → t σ H Q) : PE X e t' := ⟨fun pins s σ H Q I q => h.run pins s σ H Q I (k σ H Q q)⟩
/-- end is None or t < end, two slots -/
def tBelow (i j : Nat) : TT := fun σ H Q => ∃ so t, σ[i]? = some (some (optV so)) ∧ σ[j]? = some (some (.int t)) ∧ Q (below so t) H
theorem below_lt {i j : Nat} {σ : St} {H : Hp} {Q : Bool → Hp → Prop} (h : tBelow i j σ H Q) : tOr (tTest (tOp (fun x y H Q => y = .non ∧ Q (.bl (decide (x = .non))) H) (tVar i) (tC .non))) (tTest (tOp (rI0 fun i j => .bl (decide (i < j))) (tVar j) (tVar i))) σ H Q := by
  obtain ⟨so, t, h1, h2, q⟩ := h
  refine ⟨_, h1, rfl, _, rfl, ?_⟩
  cases so with
  | none => exact iteT q
  | some s => exact iteF ⟨_, h2, _, h1, t, s, rfl, rfl, _, rfl, q⟩
theorem below_gt {i j : Nat} {σ : St} {H : Hp} {Q : Bool → Hp → Prop} (h : tBelow i j σ H Q) : tOr (tTest (tOp (fun x y H Q => y = .non ∧ Q (.bl (decide (x = .non))) H) (tVar i) (tC .non))) (tTest (tOp (rI0 fun i j => .bl (decide (j < i))) (tVar i) (tVar j))) σ H Q := by
  obtain ⟨so, t, h1, h2, q⟩ := h
  refine ⟨_, h1, rfl, _, rfl, ?_⟩
  cases so with
  | none => exact iteT q
  | some s => exact iteF ⟨_, h1, _, h2, s, t, rfl, rfl, _, rfl, q⟩
section
variable {P : Program} {w : World} {K : PySem.W.Frag} {mg : Str → Option Value} {base : Heap} {C1 C2 fI1 fI2 : Addr}
def spBut (C2 : Addr) : Sp := fun vs H Q E => ∃ v d so, vs = [v, optV so] ∧ Dv H v d ∧ (∀ ds, itemsD d = some ds → ds.length ≤ 60) ∧
  (∀ ns, ticksOf d = some ns → (∀ i, so = some i → 0 ≤ i) → ∀ (ms : List Int), ms.Pairwise (· < ·) → (∀ k : Int, k ∈ ms ↔ k ∈ ns) → ∀ p H', Same H H' → Dv H' (.ref p) (.tuple ((butRows ms so).map rowD)) → Q (.ref p) H') ∧
  (ticksOf d = none → ∀ H', Same H H' → Rs C2 "word" (.str "tick") H' E) ∧ (∀ i, so = some i → i < 0 → ∀ H', Same H H' → Rs C2 "word" (.str "since") H' E)
abbrev nBut : List Str := ["ticks", "since", "found", "begin", "tick"]
theorem ndBut : nBut.Nodup := by decide +kernel
theorem scBut : FnScope nBut ["ticks", "since"] (defScope sBut) := ⟨rfl, rfl, rfl, by decide +kernel, rfl, by decide +kernel, by decide +kernel⟩
theorem ok_free_but {f : Addr} {fd : FuncData} (F : FnP K "free_but" sBut [.non] f fd) (cT : Fn7 P w K mg base (L2.CX P w) 3 "need_ticks" (spTicks C2) []) (cM : Fn7 P w K mg base (L2.CX P w) 3 "need_many" (spMany C2) [.int 0]) (B : Blt mg) :
    FnOk P w K mg base (L2.CX P w) 4 f fd ["ticks", "since"] (spBut C2) := by
  refine F.ok scBut (fun vs H Q E h => ?_) (fun cdv A outer s H vs Q E hr h => ?_)
  · obtain ⟨v, d, so, rfl, _⟩ := h
    rfl
  · obtain ⟨v, d, so, rfl, hv, hp, k1, k2, k3⟩ := h
    refine ⟨_, pss_cons (ps_par3 (i := 0) (j := 2) (l := 3) rfl ndBut rfl rfl rfl (by decide) (by decide) (by decide) rfl rfl rfl
        (pa_cons (pe_fx cT hr (by decide) (by rfl) (takes_of rfl rfl rfl rfl) (fun _ _ _ _ h => h) (pa_cons (pv 0) pa_nil)) (pa_cons (pe_lst pa_nil) (pa_cons pe_int pa_nil))) rfl)
      (C8.pss_cut (ps_if (pt_cmpR op_notN (pv 1) pe_non (nomark _)) (pss_one (ps_expr (pe_fx cM hr (by decide) (by rfl) (takes_of rfl rfl rfl rfl) (fun _ _ _ _ h => h) (pa_cons (pv 1) (pa_cons pe_str pa_nil))))) pss_nil)
      (pss_cons (ps_for (passes_of rfl) rfl (pi_seqS (pv 0)) (pg_name (i := 4) ndBut rfl (Or.inl rfl))
        (pss_one (ps_if ((pw_or (pt_cmpR op_isN (pv 1) pe_non (nomark _)) (pw_or1 (pt_cmpR op_lt (pv 4) (pv 1) (nomark _)))).pt.imp fun _ _ _ => below_lt (i := 1) (j := 4))
          (pss_cons (ps_expr (pe_bm PySem.F.plainAttrs_list PySem.F.slot_list_extend PySem.F.type_list_extend mt_extend (pv 2) (pa_cons (pe_ifExp (pt_cmpR op_gt (pv 4) (pv 3) (nomark _)) (pe_lst (pa_cons (pe_tup (pa_cons (pv 3) (pa_cons (pv 4) pa_nil))) pa_nil)) (pe_lst pa_nil)) pa_nil)))
            (pss_one (ps_set (i := 3) ndBut rfl (Or.inl rfl) (pe_op op_add (pv 4) pe_int)))) pss_nil)))
      (C8.pss_cut (ps_if ((pw_or (pt_cmpR op_isN (pv 1) pe_non (nomark _)) (pw_or1 (pt_cmpR op_gt (pv 1) (pv 3) (nomark _)))).pt.imp fun _ _ _ => below_gt (i := 1) (j := 3))
          (pss_one (ps_expr (pe_bm PySem.F.plainAttrs_list PySem.F.slot_list_append PySem.F.type_list_append mt_append (pv 2) (pa_cons (pe_tup (pa_cons (pv 3) (pa_cons (pv 1) pa_nil))) pa_nil)))) pss_nil)
      (pss_one (ps_ret (pe_callTy cr_tupL (by rfl) B.tuple boot_tuple (pa_cons (pv 2) pa_nil))))))), ?_⟩
    refine ⟨_, rfl, v, d, rfl, hv, hp, fun ns hns ms p H1 S1 m1 m2 m3 np hp1 => ?_, fun z H' S => k2 z H' S⟩
    refine ⟨Nat.zero_le _, fun L hL => ⟨_, _, _, rfl, ?_⟩⟩
    have SL := S1.trans (Same.new (o := .lst []) hL)
    refine ⟨fun σ' H' => σ' = [some (.ref p), some (optV so), some (.ref L), some (.int 0), none] ∧ H' = upd H1 L (.lst []) ∧ ∀ i, so = some i → 0 ≤ i, ?_, ?_⟩
    · refine ⟨_, rfl, rfl, _, rfl, ?_⟩
      cases so with
      | none => exact iteF ⟨rfl, rfl, fun i z => by cases z⟩
      | some i =>
        refine iteT ⟨_, rfl, .int i, .int i, "since", rfl, .int i, fun z => ⟨rfl, rfl, fun j e => ?_⟩, fun z => k3 i rfl ?_ _ SL⟩
        · cases e
          exact of_decide_eq_true z
        · have : ¬ 0 ≤ i := of_decide_eq_false z
          omega
    · rintro σ' H' ⟨rfl, rfl, hso⟩
      have hp2 : (upd H1 L (.lst [])) p = some (.lst (ms.map V.int)) := by rw [upd_ne (ne_of_none hp1 hL)]; exact hp1
      refine ⟨_, rfl, p, ms.map V.int, rfl, .inl hp2, fun J wk => ?_⟩
      refine for_by (ms.map V.int).length (fun i σ H2 => Lg H1 L H2 ((butFold so (ms.take i)).1.map rowD) ∧ ∃ j, σ = [some (.ref p), some (optV so), some (.ref L), some (.int (butFold so (ms.take i)).2), j]) ⟨Lg.start hL, none, by rw [List.take_zero]; rfl⟩
        (fun i σ H2 hi q => wk.go i H2 ?_ hi) (fun σ H2 q => wk.stop H2 ?_) (fun i σ H2 y H3 hi q yl => ?_) (fun σ H2 q => ?_)
      · rw [hp2, q.1.same _ _ hp1]
      · rw [hp2, q.1.same _ _ hp1]
      · obtain ⟨g, j, rfl⟩ := q
        obtain ⟨rfl, hy⟩ := wk.yld i H2 _ _ (by rw [hp2, g.same _ _ hp1]) yl
        rw [List.getElem?_map] at hy
        obtain ⟨t, ht, rfl⟩ : ∃ t, ms[i]? = some t ∧ V.int t = y := by
          cases e : ms[i]? with
          | none => rw [e] at hy; cases hy
          | some t => rw [e] at hy; exact ⟨t, rfl, Option.some.inj hy⟩
        have es := butFold_succ so ht
        have hl := butFold_len so (ms.take i)
        rw [List.length_take] at hl
        rw [List.length_map] at hi
        generalize hpp : butFold so (ms.take i) = pp at g es hl
        obtain ⟨acc, b⟩ := pp
        unfold butStep at es
        refine ⟨so, t, rfl, rfl, ite2 (fun z => ?_) (fun z => ?_)⟩
        · rw [if_pos z] at es
          obtain ⟨acc', hac, hdv⟩ := g.2
          have hal := g.len hac
          rw [List.length_map] at hal
          have hsz : acc'.length + 1 ≤ sizeLine := Nat.le_of_lt (small1000 (by simp only at hal hl; omega))
          refine ⟨_, rfl, .inl ⟨rfl, _, SqL.of hac⟩, _, rfl, _, rfl, t, b, rfl, rfl, _, rfl, ite2 (fun z2 => ?_) (fun z2 => ?_)⟩
          · have hb := of_decide_eq_true z2
            rw [if_pos hb] at es
            refine ⟨_, rfl, _, rfl, (by show 2 ≤ sizeLine; decide), fun T hT => ⟨(by show 1 ≤ sizeLine; decide), fun M hM => ?_⟩⟩
            have gT := g.grow (Same.new (o := .tup [.int b, .int t]) hT)
            have hacT : (upd H3 T (.tup [.int b, .int t])) L = some (.lst acc') := by rw [upd_ne (ne_of_none hac hT)]; exact hac
            have gM := gT.grow (Same.new (o := .lst [.ref T]) hM)
            have hacM : (upd (upd H3 T (.tup [.int b, .int t])) M (.lst [.ref T])) L = some (.lst acc') := by rw [upd_ne (ne_of_none hacT hM)]; exact hacT
            have hT2 : (upd (upd H3 T (.tup [.int b, .int t])) M (.lst [.ref T])) T = some (.tup [.int b, optV (some t)]) := by rw [upd_ne (ne_of_none upd_same hM)]; exact upd_same
            refine ⟨L, M, acc', [.ref T], rfl, rfl, hacM, upd_same, hsz, _, rfl, t, 1, rfl, rfl, ?_⟩
            have gN := gM.push hacM (Dv.mkRow hT2) (noList_row _)
            refine ⟨?_, some (.int t), ?_⟩
            · rw [es, List.map_append]
              exact gN
            · rw [es]
              rfl
          · have hb : ¬ b < t := fun h => z2 (decide_eq_true h)
            rw [if_neg hb] at es
            refine ⟨Nat.zero_le _, fun M hM => ?_⟩
            have gM := g.grow (Same.new (o := .lst []) hM)
            have hacM : (upd H3 M (.lst [])) L = some (.lst acc') := by rw [upd_ne (ne_of_none hac hM)]; exact hac
            refine ⟨L, M, acc', [], rfl, rfl, hacM, upd_same, Nat.le_of_succ_le hsz, _, rfl, t, 1, rfl, rfl, ?_⟩
            refine ⟨?_, some (.int t), ?_⟩
            · rw [es]
              exact gM.put hacM
            · rw [es]
              rfl
        · rw [if_neg z] at es
          refine ⟨?_, some (.int t), ?_⟩
          · rw [es]
            exact g
          · rw [es]
            rfl
      · obtain ⟨g, j, rfl⟩ := q
        rw [List.length_map, List.take_length] at g ⊢
        refine ⟨fun σ' H' => σ' = [some (.ref p), some (optV so), some (.ref L), some (.int (butFold so ms).2), j] ∧ Lg H1 L H' ((butRows ms so).map rowD), ?_, ?_⟩
        · have hl := butFold_len so ms
          obtain ⟨acc', hac, hdv⟩ := g.2
          have hal := g.len hac
          rw [List.length_map] at hal
          refine ⟨so, (butFold so ms).2, rfl, rfl, ite2 (fun z => ?_) (fun z => ?_)⟩
          · refine ⟨_, rfl, .inl ⟨rfl, _, SqL.of hac⟩, _, rfl, _, rfl, (by show 2 ≤ sizeLine; decide), fun T hT => ?_⟩
            have gT := g.grow (Same.new (o := .tup [.int (butFold so ms).2, optV so]) hT)
            have hacT : (upd H2 T (.tup [.int (butFold so ms).2, optV so])) L = some (.lst acc') := by rw [upd_ne (ne_of_none hac hT)]; exact hac
            refine ⟨L, acc', _, rfl, rfl, hacT, small1000 (by omega), rfl, ?_⟩
            unfold butRows
            rw [if_pos z, List.map_append]
            exact gT.push hacT (Dv.mkRow upd_same) (noList_row _)
          · refine ⟨rfl, ?_⟩
            unfold butRows
            rw [if_neg z]
            exact g
        · rintro σ' H' ⟨rfl, g2⟩
          obtain ⟨acc', hac, hdv⟩ := g2.2
          refine ⟨_, rfl, L, acc', rfl, .inl ⟨SqL.of hac, fun q hq => ?_⟩⟩
          exact k1 ns hns hso ms m1 m2 q _ ((S1.trans g2.same).trans (Same.new hq)) (g2.fin hac hq)
end
end K7
end

section
set_option Elab.async false
set_option linter.all false
set_option maxRecDepth 100000
set_option maxHeartbeats 4000000
/-! both_free, shorten_ends. -/
namespace K7
open PySem L2
def maxI (i j : Int) : Int := if j > i then j else i
def inter (r s : Row) : List Row := if below (lesser r.2 s.2) (maxI r.1 s.1) = true then [(maxI r.1 s.1, lesser r.2 s.2)] else []
def inters (ss : List Row) (r : Row) : List Row := ss.flatMap (inter r)
def bothRows (rs ss : List Row) : List Row := rs.flatMap (inters ss)
theorem inter_len (r s : Row) : (inter r s).length ≤ 1 := by
  unfold inter
  split <;> simp
theorem inters_len (ss : List Row) (r : Row) : (inters ss r).length ≤ ss.length := by
  unfold inters
  induction ss with
  | nil => simp
  | cons s ss ih =>
    rw [List.flatMap_cons, List.length_append, List.length_cons]
    have := inter_len r s
    omega
theorem both_len (rs ss : List Row) : (bothRows rs ss).length ≤ rs.length * ss.length := by
  unfold bothRows
  induction rs with
  | nil => simp
  | cons r rs ih =>
    rw [List.flatMap_cons, List.length_append, List.length_cons, Nat.add_mul, Nat.one_mul]
    have := inters_len ss r
    omega
theorem take_succ_flat {α β : Type} {f : α → List β} {l : List α} {i : Nat} {x : α} (h : l[i]? = some x) : (l.take (i + 1)).flatMap f = (l.take i).flatMap f ++ f x := by
  rw [List.take_add_one, h, List.flatMap_append]
  simp
/-- the row at a turn -/
theorem rows_at {H : Hp} {xs : List V} {rs : List Row} {i : Nat} {v : V} (h : DvAll H xs (rs.map rowD)) (e : xs[i]? = some v) : ∃ (r : Row) (a : Addr), rs[i]? = some r ∧ v = .ref a ∧ H a = some (.tup [.int r.1, optV r.2]) := by
  obtain ⟨dd, hdd, dv⟩ := h.get e
  rw [List.getElem?_map] at hdd
  cases q : rs[i]? with
  | none => rw [q] at hdd; cases hdd
  | some r =>
    rw [q] at hdd
    rw [← Option.some.inj hdd] at dv
    obtain ⟨a, rfl, ha⟩ := dv.row
    exact ⟨r, a, rfl, rfl, ha⟩
section
variable {P : Program} {w : World} {K : PySem.W.Frag} {mg : Str → Option Value} {base : Heap} {C1 C2 fI1 fI2 : Addr}
def spBoth (C1 : Addr) : Sp := fun vs H Q E => ∃ v1 v2 d1 d2, vs = [v1, v2] ∧ Dv H v1 d1 ∧ Dv H v2 d2 ∧ plainRows d1 ∧ plainRows d2 ∧
  (∀ rs ss, needRows d1 = some rs → needRows d2 = some ss → ∀ p H', Same H H' → Dv H' (.ref p) (.tuple ((bothRows rs ss).map rowD)) → Q (.ref p) H') ∧
  (needRows d1 = none → ∀ H', Same H H' → Rs C1 "at" (.int 0) H' E) ∧ (needRows d2 = none → ∀ H', Same H H' → Rs C1 "at" (.int 1) H' E)
abbrev nBoth : List Str := ["one", "other", "found", "begin", "end", "start", "until", "last"]
theorem ndBoth : nBoth.Nodup := by decide +kernel
theorem scBoth : FnScope nBoth ["one", "other"] (defScope sBoth) := ⟨rfl, rfl, rfl, by decide +kernel, rfl, by decide +kernel, by decide +kernel⟩
/-- last is None or last > max(begin, start) -/
def tInter (i j k : Nat) : TT := fun σ H Q => ∃ so x y, σ[i]? = some (some (optV so)) ∧ σ[j]? = some (some (.int x)) ∧ σ[k]? = some (some (.int y)) ∧ Q (below so (maxI x y)) H
theorem ok_both_free {f : Addr} {fd : FuncData} (F : FnP K "both_free" sBoth [] f fd) (cN : Fn7 P w K mg base (L2.CX P w) 4 "need_stretches" (spNeed C1) []) (cL : Fn7 P w K mg base CX0 1 "lesser_end" spLess []) (B : Blt mg) :
    FnOk P w K mg base (L2.CX P w) 5 f fd ["one", "other"] (spBoth C1) := by
  refine F.ok scBoth (fun vs H Q E h => ?_) (fun cdv A outer s H vs Q E hr h => ?_)
  · obtain ⟨v1, v2, d1, d2, rfl, _⟩ := h
    rfl
  · obtain ⟨v1, v2, d1, d2, rfl, hv1, hv2, hp1, hp2, k1, k2, k3⟩ := h
    refine ⟨_, pss_cons (ps_par (i := 0) (j := 1) rfl ndBoth rfl rfl (by decide) rfl rfl
        (pa_cons (pe_fx cN hr (by decide) (by rfl) (takes_of rfl rfl rfl rfl) (fun _ _ _ _ h => h) (pa_cons (pv 0) (pa_cons pe_int pa_nil))) (pa_cons (pe_fx cN hr (by decide) (by rfl) (takes_of rfl rfl rfl rfl) (fun _ _ _ _ h => h) (pa_cons (pv 1) (pa_cons pe_int pa_nil))) pa_nil)) rfl)
      (pss_cons (ps_set (i := 2) ndBoth rfl (Or.inl rfl) (pe_lst pa_nil))
      (pss_cons (ps_for (passes_of rfl) rfl (pi_seqS (pv 0)) (pg_tup rfl (pgs_cons (pg_name (i := 3) ndBoth rfl (Or.inl rfl)) (pgs_cons (pg_name (i := 4) ndBoth rfl (Or.inl rfl)) pgs_nil)))
        (pss_one (ps_for (passes_of rfl) rfl (pi_seqS (pv 1)) (pg_tup rfl (pgs_cons (pg_name (i := 5) ndBoth rfl (Or.inl rfl)) (pgs_cons (pg_name (i := 6) ndBoth rfl (Or.inl rfl)) pgs_nil)))
          (pss_cons (ps_set (i := 7) ndBoth rfl (Or.inl rfl) (pe_f cL hr (by decide) (by rfl) (pa_cons (pv 4) (pa_cons (pv 6) pa_nil))))
          (pss_one (ps_if (t := tDrop (tBM K "list" rAppend (tVar 2) (tCons (tTup (tCons (tCB (fun xs H Q => ∃ i j, xs = [.int i, .int j] ∧ Q (.int (if j > i then j else i)) H) (tCons (tVar 3) (tCons (tVar 5) tNil))) (tCons (tVar 7) tNil))) tNil))) (u := tNext) (tc := tInter 7 3 5)
            (PT.imp (pw_or (pt_cmpR op_isN (pv 7) pe_non (nomark _)) (pw_or1 (pt_cmpR op_gt (pv 7) (pe_callB (call_max2 rfl) (by rfl) B.max b7_max (pa_cons (pv 3) (pa_cons (pv 5) pa_nil))) (nomark _)))).pt fun σ H Q h => by
              obtain ⟨so, x, y, h1, h2, h3, q⟩ := h
              refine ⟨_, h1, rfl, _, rfl, ?_⟩
              cases so with
              | none => exact iteT q
              | some s => exact iteF ⟨_, h1, _, h2, _, h3, x, y, rfl, s, maxI x y, rfl, rfl, _, rfl, q⟩)
            (pss_one (ps_expr (pe_bm PySem.F.plainAttrs_list PySem.F.slot_list_append PySem.F.type_list_append mt_append (pv 2) (pa_cons (pe_tup (pa_cons (pe_callB (call_max2 rfl) (by rfl) B.max b7_max (pa_cons (pv 3) (pa_cons (pv 5) pa_nil))) (pa_cons (pv 7) pa_nil))) pa_nil)))) pss_nil))))))
      (pss_one (ps_ret (pe_callTy cr_tupL (by rfl) B.tuple boot_tuple (pa_cons (pv 2) pa_nil)))))), ?_⟩
    refine ⟨_, rfl, v1, 0, d1, rfl, hv1, hp1, fun rs hrs p1 H1 S1 hd1 => ?_, k2⟩
    refine ⟨_, rfl, v2, 1, d2, rfl, hv2.ext (Sub.of S1), hp2, fun ss hss p2 H2 S2 hd2 => ?_, fun z H' S => k3 z H' (S1.trans S)⟩
    refine ⟨_, _, rfl, Nat.zero_le _, fun L hL => ?_⟩
    obtain ⟨a1, xs, e1, hs1, hxs⟩ := (hd1.ext (Sub.of S2)).sq rfl
    cases e1
    obtain ⟨a2, ys, e2, hs2, hys⟩ := hd2.sq rfl
    cases e2
    have l1 := needRows_len hrs hp1
    have l2 := needRows_len hss hp2
    have hxl := hxs.length
    have hyl := hys.length
    rw [List.length_map] at hxl hyl
    refine ⟨_, rfl, p1, xs, rfl, hs1.same (Same.new hL), fun J wk => ?_⟩
    refine for_by xs.length (fun i σ H3 => Lg H2 L H3 ((bothRows (rs.take i) ss).map rowD) ∧ ∃ j3 j4 j5 j6 j7, σ = [some (.ref p1), some (.ref p2), some (.ref L), j3, j4, j5, j6, j7]) ⟨Lg.start hL, none, none, none, none, none, rfl⟩
      (fun i σ H3 hi q => wk.go i H3 (hs1.eq (Same.new hL) q.1.same) hi) (fun σ H3 q => wk.stop H3 (hs1.eq (Same.new hL) q.1.same)) (fun i σ H3 y H4 hi q yl => ?_) (fun σ H3 q => ?_)
    · obtain ⟨g, j3, j4, j5, j6, j7, rfl⟩ := q
      obtain ⟨rfl, hy⟩ := wk.yld i H3 _ _ (hs1.eq (Same.new hL) g.same) yl
      obtain ⟨r, ra, hr1, rfl, hra⟩ := rows_at hxs hy
      refine ⟨ra, _, rfl, SqT.of (g.same _ _ hra), rfl, _, _, rfl, _, _, rfl, rfl, ?_⟩
      refine ⟨_, rfl, p2, ys, rfl, hs2.same g.same, fun J2 wk2 => ?_⟩
      refine for_by ys.length (fun j σ H5 => Lg H2 L H5 ((bothRows (rs.take i) ss ++ inters (ss.take j) r).map rowD) ∧ ∃ j5 j6 j7, σ = [some (.ref p1), some (.ref p2), some (.ref L), some (.int r.1), some (optV r.2), j5, j6, j7]) ⟨by simpa [inters] using g, j5, j6, j7, rfl⟩
        (fun j σ H5 hj q => wk2.go j H5 (hs2.eq g.same q.1.same) hj) (fun σ H5 q => wk2.stop H5 (hs2.eq g.same q.1.same)) (fun j σ H5 y H6 hj q yl2 => ?_) (fun σ H5 q => ?_)
      · obtain ⟨g2, j5, j6, j7, rfl⟩ := q
        obtain ⟨rfl, hy2⟩ := wk2.yld j H5 _ _ (hs2.eq g.same g2.same) yl2
        obtain ⟨s2, sa, hr2, rfl, hsa⟩ := rows_at hys hy2
        refine ⟨sa, _, rfl, SqT.of (g2.same _ _ hsa), rfl, _, _, rfl, _, _, rfl, rfl, ?_⟩
        refine ⟨_, rfl, _, rfl, r.2, s2.2, rfl, ?_⟩
        have et : inters (ss.take (j + 1)) r = inters (ss.take j) r ++ inter r s2 := take_succ_flat hr2
        refine ⟨_, _, _, rfl, rfl, rfl, ite2 (fun z => ?_) (fun z => ?_)⟩
        · obtain ⟨acc, hac, hdv⟩ := g2.2
          have hal := g2.len hac
          have hlen : acc.length < sizeLine := by
            rw [hal, List.length_map, List.length_append]
            have h1 := both_len (rs.take i) ss
            have h2 := inters_len (ss.take j) r
            rw [List.length_take] at h1 h2
            have h3 : min i rs.length * ss.length ≤ 1000 * 1000 := Nat.mul_le_mul (by omega) l2
            exact Nat.lt_of_le_of_lt (Nat.add_le_add (Nat.le_trans h1 h3) (Nat.le_trans h2 (Nat.le_trans (Nat.min_le_right _ _) l2))) (by decide)
          refine ⟨_, rfl, .inl ⟨rfl, _, SqL.of hac⟩, _, rfl, _, rfl, _, _, rfl, _, rfl, (by show 2 ≤ sizeLine; decide), fun T hT => ?_⟩
          have gT := g2.grow (Same.new (o := .tup [.int (maxI r.1 s2.1), optV (lesser r.2 s2.2)]) hT)
          have hacT : (upd H6 T (.tup [.int (maxI r.1 s2.1), optV (lesser r.2 s2.2)])) L = some (.lst acc) := by rw [upd_ne (ne_of_none hac hT)]; exact hac
          refine ⟨L, acc, _, rfl, rfl, hacT, hlen, ?_, _, _, _, rfl⟩
          rw [et]
          unfold inter
          rw [if_pos z, ← List.append_assoc, List.map_append]
          exact gT.push hacT (Dv.mkRow upd_same) (noList_row _)
        · refine ⟨?_, _, _, _, rfl⟩
          rw [et]
          unfold inter
          rw [if_neg z, List.append_nil]
          exact g2
      · obtain ⟨g2, j5, j6, j7, rfl⟩ := q
        refine ⟨?_, _, _, _, _, _, rfl⟩
        have e3 : ss.take ys.length = ss := by rw [hyl, List.take_length]
        rw [e3] at g2
        have e4 : bothRows (rs.take (i + 1)) ss = bothRows (rs.take i) ss ++ inters ss r := take_succ_flat hr1
        rw [e4]
        exact g2
    · obtain ⟨g, j3, j4, j5, j6, j7, rfl⟩ := q
      have e3 : rs.take xs.length = rs := by rw [hxl, List.take_length]
      rw [e3] at g
      obtain ⟨acc, hac, hdv⟩ := g.2
      refine ⟨_, rfl, L, acc, rfl, .inl ⟨SqL.of hac, fun q hq => ?_⟩⟩
      exact k1 rs ss hrs hss q _ (((S1.trans S2).trans g.same).trans (Same.new hq)) (g.fin hac hq)
end
end K7
end

section
set_option Elab.async false
set_option linter.all false
set_option maxRecDepth 100000
set_option maxHeartbeats 4000000
/-! shorten_ends. -/
namespace K7
open PySem L2
def cutR (l : Int) (r : Row) : Row := (r.1, r.2.map fun e => e - l)
def goodR (r : Row) : Bool := below r.2 r.1
def shortRows (rs : List Row) (l : Int) : List Row := (rs.map (cutR l)).filter goodR
theorem filt_succ {α : Type} {f : α → Bool} {l : List α} {i : Nat} {x : α} (h : l[i]? = some x) : (l.take (i + 1)).filter f = if f x = true then (l.take i).filter f ++ [x] else (l.take i).filter f := by
  rw [List.take_add_one, h, List.filter_append]
  by_cases z : f x = true
  · rw [if_pos z]; simp [z]
  · rw [if_neg z]; simp [z]
/-- row[1] is None or row[1] > row[0], row in slot i -/
def tShort (i : Nat) : TT := fun σ H Q => ∃ a r, σ[i]? = some (some (.ref a)) ∧ H a = some (.tup [.int r.1, optV r.2]) ∧ Q (goodR r) H
section
variable {P : Program} {w : World} {K : PySem.W.Frag} {mg : Str → Option Value} {base : Heap} {C1 C2 fI1 fI2 : Addr}
def spShort (C1 C2 : Addr) : Sp := fun vs H Q E => ∃ v vl d dl, vs = [v, vl] ∧ Dv H v d ∧ Dv H vl dl ∧ plainRows d ∧
  (∀ rs l, needRows d = some rs → dl = .int l → 0 ≤ l → ∀ p H', Same H H' → Dv H' (.ref p) (.tuple ((shortRows rs l).map rowD)) → Q (.ref p) H') ∧
  (needRows d = none → ∀ H', Same H H' → Rs C1 "at" (.int (-1)) H' E) ∧ (isNumD dl = false → ∀ H', Same H H' → Rs C2 "word" (.str "late") H' E)
abbrev nShort : List Str := ["stretches", "late", "rows", "begin", "end", "row"]
theorem ndShort : nShort.Nodup := by decide +kernel
theorem scShort : FnScope nShort ["stretches", "late"] (defScope sShort) := ⟨rfl, rfl, rfl, by decide +kernel, rfl, by decide +kernel, by decide +kernel⟩
theorem ok_shorten_ends {f : Addr} {fd : FuncData} (F : FnP K "shorten_ends" sShort [] f fd) (cN : Fn7 P w K mg base (L2.CX P w) 4 "need_stretches" (spNeed C1) [.int (-1)]) (cM : Fn7 P w K mg base (L2.CX P w) 3 "need_many" (spMany C2) [.int 0]) (B : Blt mg) :
    FnOk P w K mg base (L2.CX P w) 5 f fd ["stretches", "late"] (spShort C1 C2) := by
  refine F.ok scShort (fun vs H Q E h => ?_) (fun cdv A outer s H vs Q E hr h => ?_)
  · obtain ⟨v, vl, d, dl, rfl, _⟩ := h
    rfl
  · obtain ⟨v, vl, d, dl, rfl, hv, hl, hp, k1, k2, k3⟩ := h
    refine ⟨_, pss_cons (ps_set (i := 0) ndShort rfl (Or.inl rfl) (pe_fx cN hr (by decide) (by rfl) (takes_of rfl rfl rfl rfl) (fun _ _ _ _ h => h) (pa_cons (pv 0) pa_nil)))
      (pss_cons (ps_expr (pe_fx cM hr (by decide) (by rfl) (takes_of rfl rfl rfl rfl) (fun _ _ _ _ h => h) (pa_cons (pv 1) (pa_cons pe_str pa_nil))))
      (pss_cons (ps_setLc (i := 2) (own := [("begin", 3), ("end", 4)]) (g := gTup K 2 (gCons (gName 3) (gCons (gName 4) gNil))) rfl ndShort rfl rfl (sw_true rfl rfl rfl (by decide +kernel))
          (pi_seqS (pv 0)) (blkOk_by (own := [("begin", 3), ("end", 4)]) (N := nShort) (sc := defScope sShort) (by decide +kernel))
          (fun _ _ _ _ _ => pg_tup rfl (pgs_cons (pg_name (i := 3) ndShort rfl (Or.inl rfl)) (pgs_cons (pg_name (i := 4) ndShort rfl (Or.inl rfl)) pgs_nil)))
          (fun _ _ _ _ _ => pts_nil)
          (fun _ _ _ _ _ => pe_tup (pa_cons (pv 3) (pa_cons (pe_ifExp (pt_cmpR op_isN (pv 4) pe_non (nomark _)) pe_non (pe_op op_sub (pv 4) (pv 1))) pa_nil))))
      (pss_one (ps_ret (pe_callTy cr_tupL (by rfl) B.tuple boot_tuple (pa_cons (pe_lc (tt := tShort 5) (own := [("row", 5)]) (g := gName 5) rfl ndShort (pi_seqS (pv 2)) (blkOk_by (own := [("row", 5)]) (N := nShort) (sc := defScope sShort) (by decide +kernel))
          (fun _ _ _ _ _ => pg_name (i := 5) ndShort rfl (Or.inl rfl))
          (fun _ _ _ _ _ => pts_one (PT.imp (pw_or (pt_cmpR op_isN (pe_ix ix_tup (pv 5) pe_int (fun _ _ => rfl)) pe_non (nomark _)) (pw_or1 (pt_cmpR op_gt (pe_ix ix_tup (pv 5) pe_int (fun _ _ => rfl)) (pe_ix ix_tup (pv 5) pe_int (fun _ _ => rfl)) (nomark _)))).pt fun σ H Q h => by
              obtain ⟨a, r, h1, h2, q⟩ := h
              refine ⟨_, h1, a, _, 1, _, rfl, rfl, SqT.of h2, rfl, rfl, _, rfl, ?_⟩
              obtain ⟨b, so⟩ := r
              cases so with
              | none => exact iteT q
              | some e => exact iteF ⟨_, h1, a, _, 1, _, rfl, rfl, SqT.of h2, rfl, _, h1, a, _, 0, _, rfl, rfl, SqT.of h2, rfl, e, b, rfl, rfl, _, rfl, q⟩))
          (fun _ _ _ _ _ => pv 5)) pa_nil)))))), ?_⟩
    refine ⟨_, rfl, v, -1, d, rfl, hv, hp, fun rs hrs p H1 S1 hd1 => ?_, k2⟩
    refine ⟨_, rfl, vl, dl, "late", rfl, hl.ext (Sub.of S1), fun hn => ?_, fun hn => k3 hn H1 S1⟩
    obtain ⟨l, rfl, h0⟩ : ∃ i, dl = .int i ∧ 0 ≤ i := by
      cases dl with
      | int i => exact ⟨i, rfl, of_decide_eq_true hn⟩
      | _ => cases hn
    cases hl
    obtain ⟨a, xs, ea, hs, hxs⟩ := hd1.sq rfl
    cases ea
    have hl1 := needRows_len hrs hp
    have hxl := hxs.length
    rw [List.length_map] at hxl
    refine ⟨_, rfl, p, xs, rfl, hs, fun J wk D hD => ?_⟩
    refine lc_dv xs.length (fun j => ((rs.take j).map (cutR l)).map rowD) hD rfl (fun j hj => small1000 (by rw [List.length_map, List.length_map, List.length_take]; omega)) (fun j H3 hj S3 => wk.go j H3 (hs.eq (Same.refl _) S3) hj) (fun H3 S3 => wk.stop H3 (hs.eq (Same.refl _) S3)) (fun j H3 y H4 acc N hj S3 ha yl hN hS => ?_) (fun H3 zs S3 hD3 hz => ?_)
    · obtain ⟨rfl, hy⟩ := wk.yld j H3 _ _ (hs.eq (Same.refl _) S3) yl
      obtain ⟨r, ra, hr1, rfl, hra⟩ := rows_at hxs hy
      refine ⟨ra, _, rfl, SqT.of (S3 _ _ hra), rfl, _, _, rfl, _, _, rfl, rfl, rfl, ?_⟩
      unfold tYes
      refine iteT ⟨_, rfl, _, rfl, rfl, _, rfl, ?_⟩
      have fin : ∀ (q : V), q = optV (cutR l r).2 → ∀ T, H4 T = none → ∃ acc, (upd H4 T (.tup [.int r.1, q])) D = some (.lst acc) ∧ acc.length < sizeLine ∧ N (upd (upd H4 T (.tup [.int r.1, q])) D (.lst (acc ++ [.ref T]))) := fun q hq T hT => by
        subst hq
        refine hN _ _ (rowD (cutR l r)) (Same.new hT) (Dv.off (zs := acc) (by rw [upd_ne (ne_of_none ha hT)]; exact ha) (Dv.mkRow upd_same) (noList_row _)) ?_
        show List.map _ (List.map _ (List.take (j + 1) rs)) = _
        rw [List.take_add_one, hr1, List.map_append, List.map_append]
        rfl
      obtain ⟨b, so⟩ := r
      cases so with
      | none => exact iteT ⟨(by show 2 ≤ sizeLine; decide), fun T hT => fin .non rfl T hT⟩
      | some e => exact iteF ⟨_, rfl, _, rfl, e, l, rfl, rfl, (by show 2 ≤ sizeLine; decide), fun T hT => fin (.int (e - l)) rfl T hT⟩
    · have hz2 : DvAll H3 zs ((rs.map (cutR l)).map rowD) := by
        have e3 : rs.take xs.length = rs := by rw [hxl, List.take_length]
        have hz1 : DvAll (off D H3) zs (((rs.take xs.length).map (cutR l)).map rowD) := hz
        rw [e3] at hz1
        exact hz1.ext off_sub
      have hzl := hz2.length
      rw [List.length_map, List.length_map] at hzl
      have hsD : Sq H3 D zs := .inl hD3
      refine ⟨_, rfl, D, zs, rfl, hsD, fun J2 wk2 D2 hD2 => ?_⟩
      refine lc_dv zs.length (fun j => (((rs.map (cutR l)).take j).filter goodR).map rowD) hD2 rfl (fun j hj => small1000 ?_) (fun j H4 hj S4 => wk2.go j H4 (hsD.eq (Same.refl _) S4) hj) (fun H4 S4 => wk2.stop H4 (hsD.eq (Same.refl _) S4)) (fun j H4 y H5 acc N hj S4 ha yl hN hS => ?_) (fun H4 us S4 hD4 hu => ?_)
      · rw [List.length_map]
        refine Nat.le_trans (List.length_filter_le _ _) ?_
        rw [List.length_take, List.length_map]
        omega
      · obtain ⟨rfl, hy⟩ := wk2.yld j H4 _ _ (hsD.eq (Same.refl _) S4) yl
        obtain ⟨r, ra, hr1, rfl, hra⟩ := rows_at hz2 hy
        have es := filt_succ (f := goodR) hr1
        refine ⟨rfl, ra, r, rfl, S4 _ _ hra, ?_⟩
        refine ite2 (fun z => ⟨_, rfl, ?_⟩) (fun z => ?_)
        · rw [if_pos z] at es
          refine hN _ _ (rowD r) (Same.refl _) (Dv.off ha (Dv.mkRow (S4 _ _ hra)) (noList_row _)) ?_
          show List.map _ (List.filter _ (List.take (j + 1) _)) = _
          rw [es, List.map_append]
          rfl
        · rw [if_neg z] at es
          refine hS _ (Same.refl _) ?_
          show List.map _ (List.filter _ (List.take (j + 1) _)) = _
          rw [es]
      · refine ⟨D2, us, rfl, .inl ⟨SqL.of hD4, fun q hq => ?_⟩⟩
        refine k1 rs l hrs rfl h0 q _ (((S1.trans S3).trans S4).trans (Same.new hq)) (.tup upd_same ?_)
        have e3 : (rs.map (cutR l)).take zs.length = rs.map (cutR l) := by rw [hzl, ← List.length_map (f := cutR l), List.take_length]
        have hu1 : DvAll (off D2 H4) us ((((rs.map (cutR l)).take zs.length).filter goodR).map rowD) := hu
        rw [e3] at hu1
        exact (hu1.ext off_sub).ext (Sub.new hq)
end
end K7
end

section
set_option Elab.async false
set_option linter.all false
set_option maxRecDepth 100000
set_option maxHeartbeats 4000000
/-! sorted(t, key=lambda row: row[0]) of a tuple of rows. -/
namespace K7
open PySem L2 LamX LamV PySem.Spec PyProof.Rows
section
variable {X : Cx} {params : Arguments} {scope : Scope} {nm : Str} {kk : Nat} {q1 q2 q3 : Pos}
/-- the key's lambda: nm: nm[0] -/
structure KeyLam (params : Arguments) (scope : Scope) (nm : Str) : Prop where
  kind : scope.kind = .function
  co : scope.isCoroutine = false
  gen : scope.isGenerator = false
  cell : ∀ y ∈ scope.names, y.2 ≠ .cell
  loc : scope.names.lookup nm = some .local
  nd : (nm == ("__debug__" : Str)) = false
  bind : ∀ (qual : Str) (body : Expr) (cl : List (Str × Addr)) (pm cv ctv v : Value), bindArgs (PySem.W.kla_fn "<lambda>" qual params body scope cl pm cv ctv) ⟨[v], []⟩ = pure [(nm, v)]
theorem key_turn {P : Program} {w : World} {A : Around} {s : Shared} {f c' ra : Addr} {qual : Str} {cl : List (Str × Addr)} {pm ctv : Value} {its : Array Value} {i : Int} {t : Tok} (L : KeyLam params scope nm)
    (hf : s.heap.get? f = some (PySem.W.kla_obj "<lambda>" qual params (.Subscript (.Name nm q1) (.Constant (.int 0) kk q2) q3) scope cl pm c' ctv)) (hc : s.heap.CodeRec (.ref c') qual) (hd : A.depth < recursionLimit) (lim : s.heap.NoLimit)
    (ht : IsTup s.heap ra its) (h0 : its[0]? = some (.int i t)) :
    wpAny (model P w) A (call (.ref f) [.ref ra]) (PySem.W.KeyPure (.int i) s) (fun _ _ => False) s := by
  have rc : codeAny (model P w) A (.call (.ref f) ⟨[.ref ra], []⟩) (fun r s' => r = .ok (.ret (.int i t)) ∧ ∃ h' tk, s' = { s with heap := h', toks := tk } ∧ ∀ b o, s.heap.get? b = some o → h'.get? b = some o) s := by
    refine PySem.W.kla_callFunE hd hf rfl L.co L.gen rfl hc ?_
    rw [L.bind]
    refine wpAny_pure (wpAny_newFunctionEnv L.cell (fun y hy => ?_) (fun h₁ hns hsb => ⟨lim.fresh _ hsb, ?_⟩) L.kind)
    · rw [List.mem_singleton.mp hy]
      exact L.loc
    have kp : ∀ b o, s.heap.get? b = some o → h₁.get? b = some o := fun b o e => hsb.extBut b o (Nat.ne_of_lt (Heap.lt_size e)) (Heap.get?_push_of_some _ e)
    refine PySem.W.kla_codeExpr ?_
    refine Subscript_ (wpAny_Name (wpAny_loadName_local (v := .ref ra) L.kind L.loc hns (by simp) ?_) L.nd)
    refine wpAny_Constant_int ?_
    have ht1 : IsTup h₁ ra its := by
      obtain ⟨o, ho, r⟩ := ht
      exact ⟨o, kp _ _ ho, r⟩
    refine subscriptTail_builtinR (x := .int i t) ht1.typeIs slot_tuple_getitem.lookup
      (getItem_tuple (j := 0) ht1 (by omega) (by omega) ?_ h0 ?_)
    · have hpos : 0 < its.size := (Array.getElem?_eq_some_iff.mp h0).1
      exact seqIndex_of (by omega) (by omega)
    · exact ⟨rfl, rfl, h₁, _, rfl, kp⟩
  refine wpAny_call (codeAny_mono rc fun r s' hq => ?_)
  obtain ⟨rfl, h', tk, rfl, kp⟩ := hq
  exact ⟨h', tk, rfl, kp, .int i t⟩
def rSortKey (X : Cx) (params : Arguments) (body : Expr) (scope : Scope) : List V → List V → Hp → VK → Prop := fun vs zs H Q => ∃ a f c' xs, ∃ rs : List Row, vs = [.ref a] ∧ zs = [.ref f] ∧ SqT X.K H a xs ∧ DvAll H xs (rs.map rowD) ∧
  H f = some (LamO X f c' params body scope) ∧ H c' = some (CodeO c' (X.env.qual ++ "<lambda>")) ∧ rs.length ≤ 2000 ∧
  ∀ (ys : List V) (ss : List Row) (p : Addr), H p = none → ss.Perm rs → ss.Pairwise (fun r s => r.1 ≤ s.1) → DvAll H ys (ss.map rowD) → Q (.ref p) (upd H p (.lst ys))
theorem vals_zip {H : Hp} : ∀ {xs : List V} {us : List Value} {rs : List Row}, Vals xs us → DvAll H xs (rs.map rowD) → PySem.W.EachIs (fun (u : Value) (b : V × Row) => RelV b.1 u ∧ Dv H b.1 (rowD b.2)) us (xs.zip rs) ∧ (xs.zip rs).map Prod.snd = rs
  | [], [], [], .nil, .nil => ⟨.nil, rfl⟩
  | x :: xs, u :: us, r :: rs, .cons a b, .cons c d => ⟨.cons ⟨a, c⟩ (vals_zip b d).1, by rw [List.zip_cons_cons, List.map_cons, (vals_zip b d).2]⟩
theorem zip_vals {H : Hp} : ∀ {us : List Value} {bs : List (V × Row)}, PySem.W.EachIs (fun (u : Value) (b : V × Row) => RelV b.1 u ∧ Dv H b.1 (rowD b.2)) us bs → Vals (bs.map Prod.fst) us ∧ DvAll H (bs.map Prod.fst) ((bs.map Prod.snd).map rowD)
  | [], [], .nil => ⟨.nil, .nil⟩
  | u :: us, b :: bs, .cons a r => ⟨.cons a.1 (zip_vals r).1, .cons a.2 (zip_vals r).2⟩
theorem cr_sortKey {k : Nat} {body : Expr} (hr : Room (k + 2) X.A) (L : KeyLam params scope nm) (hb : ∃ kk q1 q2 q3, body = .Subscript (.Name nm q1) (.Constant (.int 0) kk q2) q3) : CallRK X (.builtin "sorted") [Str.ofString "key"] (rSortKey X params body scope) := by
  obtain ⟨kk, q1, q2, q3, rfl⟩ := hb
  intro pins s σ H vs zs us ws Q I r rz h
  obtain ⟨a, f, c', xs, rs, rfl, rfl, hq, hdv, hf, hc, hl, q⟩ := h
  rw [Vals.ref1 r]
  obtain rfl := Vals.ref1 rz
  obtain ⟨its, rv, pt, hz⟩ := I.tuple hq
  obtain ⟨⟨pm, ctv, of1⟩, _, _⟩ := I.hok f _ hf
  obtain ⟨⟨oc, vs, t, hoc, hdc, hvc⟩, _, _⟩ := I.hok c' _ hc
  obtain ⟨ez, es⟩ := vals_zip rv hdv
  have hln : (xs.zip rs).length = rs.length := by rw [← List.length_map (f := Prod.snd), es]
  show wpAny (model X.prog X.w) X.A (call (.builtin "sorted") [.ref a] [(Str.ofString "key", .ref f)]) _ _ _
  refine sortedT_key (b := false) (fun b : V × Row => .int b.2.1) (show s.heap.IsTuple a its.toArray from pt) ez (PySem.W.AllAlike.of fun _ _ => by simp [PySem.W.alike]) (PySem.W.Sortable.others fun _ => ⟨by simp, by simp⟩) (by rw [hln, sizeLine_eq]; omega) (fun b _ => ?_) (ksk_s1 _ _) (fun _ => ksk_l1 _ _) (fun _ => ksk_t1 _ _)
    (fun v b hR hm h tk kp => ?_) (fun out c p h' tk kp hp hg hlo eo => ?_)
  · have := hr.un
    simp [PyData.depth]
    omega
  · obtain ⟨r1, d1⟩ := hR
    obtain ⟨ra, e1, hra⟩ := d1.row
    rw [e1] at r1
    cases (show v = Value.ref ra from r1)
    obtain ⟨_, i2, r2, pt2⟩ := I.hok ra _ hra
    cases r2 with
    | cons ri rr =>
      obtain ⟨t2, rfl⟩ := ri
      obtain ⟨o2, ho2, k2⟩ := pt2
      refine key_turn (s := { s with heap := h, toks := tk }) L (kp _ _ of1) ⟨c', oc, vs, t, rfl, kp _ _ hoc, hdc, hvc⟩ ?_ (I.nolimit.keeps kp) ⟨o2, kp _ _ ho2, k2⟩ rfl
      have := hr.dp
      show X.A.depth < _
      omega
  · rw [PySem.W.dataLe_int (β := V × Row) fun b => b.2.1] at eo
    obtain ⟨v1, v2⟩ := zip_vals eo
    have hperm : ((xs.zip rs).mergeSort fun a b => decide (a.2.1 ≤ b.2.1)).Perm (xs.zip rs) := List.mergeSort_perm _ _
    have hp2 := hperm.map Prod.snd
    rw [es] at hp2
    have hlen : (((xs.zip rs).mergeSort fun a b => decide (a.2.1 ≤ b.2.1)).map Prod.fst).length ≤ sizeLine := by
      rw [List.length_map, hperm.length_eq, hln, sizeLine_eq]
      omega
    refine ⟨.ref p, upd H p (.lst (((xs.zip rs).mergeSort fun a b => decide (a.2.1 ≤ b.2.1)).map Prod.fst)), I.laid (t' := tk) kp hp ⟨hlen, out, c, v1, hg⟩, rfl, q _ _ p (I.hok.fresh hp) hp2 ?_ v2⟩
    have srt := List.pairwise_mergeSort (le := fun a b : V × Row => decide (a.2.1 ≤ b.2.1)) (fun a b c h1 h2 => by simp only [decide_eq_true_eq] at *; omega) (fun a b => by simp only [Bool.or_eq_true, decide_eq_true_eq]; omega) (xs.zip rs)
    rw [List.pairwise_map]
    exact srt.imp fun h => of_decide_eq_true h
end
end K7
end

section
set_option Elab.async false
set_option linter.all false
set_option maxRecDepth 100000
set_option maxHeartbeats 4000000
/-! either_free. -/
namespace K7
open PySem L2 LamX LamV
def reach (e : Option Int) (b : Int) : Bool := match e with
  | none => true
  | some x => decide (b ≤ x)
def joinE (e f : Option Int) : Option Int := match e, f with
  | some x, some y => some (maxI x y)
  | _, _ => none
def eithStep (acc : List Row) (r : Row) : List Row := match acc.getLast? with
  | none => acc ++ [r]
  | some a => if reach a.2 r.1 = true then acc.dropLast ++ [(a.1, joinE a.2 r.2)] else acc ++ [r]
def eithRows (ms : List Row) : List Row := ms.foldl eithStep []
theorem eithStep_len (acc : List Row) (r : Row) : (eithStep acc r).length ≤ acc.length + 1 := by
  unfold eithStep
  split
  · simp
  · split
    · rw [List.length_append, List.length_dropLast, List.length_cons, List.length_nil]
      omega
    · simp
theorem eith_len : ∀ (ms acc : List Row), (ms.foldl eithStep acc).length ≤ acc.length + ms.length
  | [], acc => by simp
  | r :: ms, acc => by
    rw [List.foldl_cons, List.length_cons]
    have := eith_len ms (eithStep acc r)
    have := eithStep_len acc r
    omega
theorem eith_succ {ms : List Row} {i : Nat} {r : Row} (h : ms[i]? = some r) : eithRows (ms.take (i + 1)) = eithStep (eithRows (ms.take i)) r := by
  unfold eithRows
  rw [List.take_add_one, h, List.foldl_append]
  rfl
theorem Sub.ofN {H H' : Hp} (e : ExtN H H') : Sub H H' := ⟨fun a xs h => e _ _ h (fun ps z => by cases z), fun a xs h => e _ _ h (fun ps z => by cases z)⟩
theorem ixN_last (n : Nat) : ixN (n + 1) (-1) = some n := by
  unfold ixN
  simp
  exact ⟨by omega, by omega⟩
def forIter (st : Stmt) : Expr := match st with
  | .For _ it _ _ _ => it
  | _ => .Constant .none 0 ⟨0, 0, 0, 0⟩
def kwLam (e : Expr) : Expr := match e with
  | .Call _ _ (k :: _) _ => k.value
  | _ => .Constant .none 0 ⟨0, 0, 0, 0⟩
def lamP (e : Expr) : Arguments := match e with
  | .Lambda a _ _ _ => a
  | _ => { posonlyargs := [], args := [], vararg := none, kwonlyargs := [], kw_defaults := [], kwarg := none, defaults := [] }
def lamS (e : Expr) : Scope := match e with
  | .Lambda _ _ s _ => s
  | _ => { kind := .function, names := [], isGenerator := false, isCoroutine := false }
def lamB (e : Expr) : Expr := match e with
  | .Lambda _ b _ _ => b
  | _ => .Constant .none 0 ⟨0, 0, 0, 0⟩
def eithLam : Expr := kwLam (forIter ((defBody sEith).getD 2 (.Pass ⟨0, 0, 0, 0⟩)))
theorem eith_key : KeyLam (lamP eithLam) (lamS eithLam) "row" := ⟨rfl, rfl, rfl, by decide +kernel, rfl, by decide, fun _ _ _ _ _ _ _ => rfl⟩
/-- a def that holds its code object -/
structure FnC (K : PySem.W.Frag) (x : Str) (st : Stmt) (c : Addr) (f : Addr) (fd : FuncData) : Prop where
  ex : ∃ (oc : Value) (od : Option Addr) (kV doc pm : Value) (an : Option Addr) (ct : Value) (osl : Array (Option Value)),
    fd = PySem.W.fnOf x x (defArgs st) (defBody st) (defScope st) .none kV doc pm an (.ref c) ct ∧ K.lookup f = some ⟨oc, od, .func fd, osl⟩ ∧ PySem.W.codeIn K (.ref c) x = true
  kp : PySem.W.keepIn K (.ref f) = true
theorem FnC.fnp {K : PySem.W.Frag} {x : Str} {st : Stmt} {c f : Addr} {fd : FuncData} (F : FnC K x st c f fd) : FnP K x st [] f fd := by
  obtain ⟨oc, od, kV, doc, pm, an, ct, osl, e, lk, hcd⟩ := F.ex
  exact ⟨⟨oc, od, .none, kV, doc, pm, an, .ref c, ct, osl, e, lk, hcd, .inl ⟨rfl, rfl⟩, .inl rfl⟩, F.kp⟩
theorem FnC.ok {P : Program} {w : World} {K : PySem.W.Frag} {mg : Str → Option Value} {base : Heap} {CX : CXT} {x : Str} {st : Stmt} {c f : Addr} {fd : FuncData} {N ps : List Str} {k : Nat} {sp : Sp} (F : FnC K x st c f fd) (S : FnScope N ps (defScope st)) (len : ∀ vs H Q E, sp vs H Q E → vs.length = ps.length)
    (hbody : ∀ (A : Around) (outer : List Env) (s : Shared) (H : Hp) (vs : List V) (Q : VK) (E : XK), Room k (A.deeper (PyProof.Rows.envOfC x (defScope st) s.heap.objs.size f (.ref c))) → sp vs H Q E →
      ∃ t, PSs (cxOf CX P w K mg base N x (defScope st) f (.ref c) A outer s H E) (defBody st) t ∧ t { nx := fun _ H' => Q .non H', rt := Q } (start N vs) H) : FnOk P w K mg base CX (k + 1) f fd ps sp := by
  obtain ⟨oc, od, kV, doc, pm, an, ct, osl, rfl, lk, hcd⟩ := F.ex
  exact fn_of lk hcd S len fun A outer s H vs Q E hr hsp => hbody A outer s H vs Q E hr hsp
theorem Tabs.offL {T : List (Addr × Str)} {H : Hp} {L : Addr} {xs : List V} (t : Tabs T H) (h : H L = some (.lst xs)) : Tabs T (off L H) := fun p hp => by
  obtain ⟨ps, h1, h2, h3⟩ := t p hp
  refine ⟨ps, by rw [off_ne (fun e => by rw [e, h] at h1; cases h1)]; exact h1, h2, fun pos cv hc => ?_⟩
  obtain ⟨c, e1, e2⟩ := h3 pos cv hc
  exact ⟨c, e1, by rw [off_ne (fun e => by rw [e, h] at e2; unfold CodeO at e2; cases e2)]; exact e2⟩
/-- tLamV, the object named -/
def tLamN (X : Cx) (T : List (Addr × Str)) (params : Arguments) (body : Expr) (scope : Scope) : TE := fun _ H Q => Tabs T H ∧ ∀ (f c' : Addr) (H1 : Hp) (o : HO), ExtN H H1 → Tabs T H1 → H1 f = none →
  H1 c' = some (CodeO c' (X.env.qual ++ "<lambda>")) → o = LamO X f c' params body scope → Q (.ref f) (upd H1 f o)
theorem tLamN.to {X : Cx} {T : List (Addr × Str)} {params : Arguments} {body : Expr} {scope : Scope} {σ : St} {H : Hp} {Q : VK} (h : tLamN X T params body scope σ H Q) : tLamV X T params body scope σ H Q := ⟨h.1, fun f c' H1 a b c d => h.2 f c' H1 _ a b c d rfl⟩
section
variable {P : Program} {w : World} {K : PySem.W.Frag} {mg : Str → Option Value} {base : Heap} {C1 C2 fI1 fI2 : Addr}
def spEith (T : List (Addr × Str)) (C1 : Addr) : Sp := fun vs H Q E => ∃ v1 v2 d1 d2, vs = [v1, v2] ∧ Dv H v1 d1 ∧ Dv H v2 d2 ∧ plainRows d1 ∧ plainRows d2 ∧ Tabs T H ∧
  (∀ rs ss, needRows d1 = some rs → needRows d2 = some ss → ∀ ms : List Row, ms.Perm (rs ++ ss) → ms.Pairwise (fun r s => r.1 ≤ s.1) → ∀ p H', ExtN H H' → Tabs T H' → Dv H' (.ref p) (.tuple ((eithRows ms).map rowD)) → Q (.ref p) H') ∧
  (needRows d1 = none → ∀ H', Same H H' → Rs C1 "at" (.int 0) H' E) ∧ (needRows d2 = none → ∀ H', Same H H' → Rs C1 "at" (.int 1) H' E)
abbrev nEith : List Str := ["one", "other", "found", "begin", "end", "last"]
theorem ndEith : nEith.Nodup := by decide +kernel
theorem scEith : FnScope nEith ["one", "other"] (defScope sEith) := ⟨rfl, rfl, rfl, by decide +kernel, rfl, by decide +kernel, by decide +kernel⟩
/-- one + other, two tuples -/
def tCatR : TE := fun σ H Q => ∃ a b xs ys, σ[0]? = some (some (.ref a)) ∧ σ[1]? = some (some (.ref b)) ∧ H a = some (.tup xs) ∧ H b = some (.tup ys) ∧ xs.length + ys.length ≤ sizeLine ∧ ∀ q H4, Same H H4 → H4 q = some (.tup (xs ++ ys)) → Q (.ref q) H4
/-- len(found) > 0 and (found[-1][1] is None or begin <= found[-1][1]) -/
def tReach : TT := fun σ H Q => ∃ L acc rs b, σ[2]? = some (some (.ref L)) ∧ σ[3]? = some (some (.int b)) ∧ H L = some (.lst acc) ∧ DvAll H acc (rs.map rowD) ∧ (rs = [] → Q false H) ∧ (∀ init a, rs = init ++ [a] → Q (reach a.2 b) H)
theorem last_row {H : Hp} {acc : List V} {rs : List Row} (h : DvAll H acc (rs.map rowD)) {init : List Row} {a : Row} (e : rs = init ++ [a]) : ∃ ai ra, acc = ai ++ [V.ref ra] ∧ ai.length = init.length ∧ DvAll H ai (init.map rowD) ∧ H ra = some (.tup [.int a.1, optV a.2]) := by
  subst e
  have hl := h.length
  rw [List.length_map, List.length_append, List.length_cons, List.length_nil] at hl
  have h1 := h.take init.length
  have h2 := h.drop init.length
  rw [List.map_append] at h1 h2
  have e1 : ((init.map rowD) ++ [a].map rowD).take init.length = init.map rowD := by
    rw [← List.length_map (f := rowD) (as := init), List.take_left]
  have e2 : ((init.map rowD) ++ [a].map rowD).drop init.length = [rowD a] := by
    rw [← List.length_map (f := rowD) (as := init), List.drop_left]
    rfl
  rw [e1] at h1
  rw [e2] at h2
  cases hd : acc.drop init.length with
  | nil =>
    rw [hd] at h2
    cases h2
  | cons x l =>
    rw [hd] at h2
    cases h2 with
    | cons x1 r1 =>
      cases r1
      obtain ⟨ra, rfl, hra⟩ := x1.row
      refine ⟨acc.take init.length, ra, ?_, ?_, h1, hra⟩
      · rw [← hd, List.take_append_drop]
      · rw [List.length_take]
        omega
theorem ok_either_free {f c Pe : Addr} {fd : FuncData} {T : List (Addr × Str)} (F : FnC K "either_free" sEith c f fd) (cN : Fn7 P w K mg base (L2.CX P w) 4 "need_stretches" (spNeed C1) []) (TB : TabB base mg c Pe)
    (hm : (Pe, PySem.Str.ofString "either_free" ++ ".<locals>." ++ "<lambda>") ∈ T) (hu : ∀ p ∈ T, p.1 = Pe → p.2 = PySem.Str.ofString "either_free" ++ ".<locals>." ++ "<lambda>") (B : Blt mg) :
    FnOk P w K mg base (L2.CX P w) 7 f fd ["one", "other"] (spEith T C1) := by
  refine F.ok scEith (fun vs H Q E h => ?_) (fun A outer s H vs Q E hr h => ?_)
  · obtain ⟨v1, v2, d1, d2, rfl, _⟩ := h
    rfl
  · obtain ⟨v1, v2, d1, d2, rfl, hv1, hv2, hp1, hp2, hT, k1, k2, k3⟩ := h
    refine ⟨_, pss_cons (ps_par (i := 0) (j := 1) rfl ndEith rfl rfl (by decide) rfl rfl
        (pa_cons (pe_fx cN hr (by decide) (by rfl) (takes_of rfl rfl rfl rfl) (fun _ _ _ _ h => h) (pa_cons (pv 0) (pa_cons pe_int pa_nil))) (pa_cons (pe_fx cN hr (by decide) (by rfl) (takes_of rfl rfl rfl rfl) (fun _ _ _ _ h => h) (pa_cons (pv 1) (pa_cons pe_int pa_nil))) pa_nil)) rfl)
      (pss_cons (ps_set (i := 2) ndEith rfl (Or.inl rfl) (pe_lst pa_nil))
      (pss_cons (ps_for (passes_of rfl) rfl (pi_seqS (pe_callBK (cr_sortKey (k := 4) hr (nm := "row") (params := lamP eithLam) (body := lamB eithLam) (scope := lamS eithLam) eith_key ⟨_, _, _, _, rfl⟩) (by rfl) B.sorted b7_sorted
            (pa_cons (PE.imp (t' := tCatR) (pe_op op_catA (pv 0) (pv 1)) fun σ H Q h => by
              obtain ⟨a, b, xs, ys, h0, h1, ha, hb, hl, q⟩ := h
              refine ⟨_, h0, _, h1, a, b, xs, ys, rfl, rfl, SqT.of ha, SqT.of hb, hl, fun e => ?_, fun _ e => ?_, fun _ _ p hp => ?_⟩
              · refine q b H (Same.refl _) ?_
                rw [e]
                exact hb
              · refine q a H (Same.refl _) ?_
                rw [e, List.append_nil]
                exact ha
              · exact q p _ (Same.new hp) upd_same) pa_nil)
            (pk_cons (PE.imp (pe_lambda TB rfl hm hu (fun y hy e => by rw [List.mem_singleton.mp hy] at e; cases e) rfl) fun _ _ _ h => tLamN.to h) pk_nil)))
          (pg_tup rfl (pgs_cons (pg_name (i := 3) ndEith rfl (Or.inl rfl)) (pgs_cons (pg_name (i := 4) ndEith rfl (Or.inl rfl)) pgs_nil)))
        (pss_one (ps_if (tc := tReach) (PT.imp (pw_and (pt_cmpR op_gt (pe_callB call_len_seq (by rfl) B.len boot_len (pa_cons (pv 2) pa_nil)) pe_int (nomark _))
              (pw_and1 (pw_or (pt_cmpR op_isN (pe_ix ix_tup (pe_ix ix_list (pv 2) (pe_un un_neg pe_int) (fun _ _ => rfl)) pe_int (fun _ _ => rfl)) pe_non (nomark _)) (pw_or1 (pt_cmpR op_le (pv 3) (pe_ix ix_tup (pe_ix ix_list (pv 2) (pe_un un_neg pe_int) (fun _ _ => rfl)) pe_int (fun _ _ => rfl)) (nomark _)))).pt)).pt fun σ H Q h => by
              obtain ⟨L, acc, rs, b, h1, h2, hL, hd, q1, q2⟩ := h
              refine ⟨_, h1, L, acc, rfl, .inl (SqL.of hL), _, _, rfl, rfl, _, rfl, ?_⟩
              rcases List.eq_nil_or_concat rs with e | ⟨init, a, e⟩
              · have z := q1 e
                subst e
                cases hd
                exact iteF z
              · have z := q2 init a (by rw [e, List.concat_eq_append])
                obtain ⟨ai, ra, e2, e3, e4, e5⟩ := last_row hd (by rw [e, List.concat_eq_append])
                subst e2
                refine ite2 (fun _ => ?_) (fun z => absurd (decide_eq_true (by simp)) z)
                refine ⟨_, h1, _, rfl, L, _, -1, .ref ra, rfl, rfl, SqL.of hL, atI_last _ _, ra, _, 1, _, rfl, rfl, SqT.of e5, rfl, rfl, _, rfl, ?_⟩
                obtain ⟨a1, a2⟩ := a
                cases a2 with
                | none => exact iteT z
                | some x => exact iteF ⟨_, h2, _, h1, _, rfl, L, _, -1, .ref ra, rfl, rfl, SqL.of hL, atI_last _ _, ra, _, 1, _, rfl, rfl, SqT.of e5, rfl, b, x, rfl, rfl, _, rfl, z⟩)
          (pss_cons (ps_set (i := 5) ndEith rfl (Or.inl rfl) (pe_ix ix_tup (pe_ix ix_list (pv 2) (pe_un un_neg pe_int) (fun _ _ => rfl)) pe_int (fun _ _ => rfl)))
            (pss_one (ps_asg (pe_tup (pa_cons (pe_ix ix_tup (pe_ix ix_list (pv 2) (pe_un un_neg pe_int) (fun _ _ => rfl)) pe_int (fun _ _ => rfl))
                (pa_cons (pe_ifExp (pw_or (pt_cmpR op_isN (pv 5) pe_non (nomark _)) (pw_or1 (pt_cmpR op_isN (pv 4) pe_non (nomark _)))).pt pe_non (pe_callB (call_max2 rfl) (by rfl) B.max b7_max (pa_cons (pv 5) (pa_cons (pv 4) pa_nil)))) pa_nil)))
              (pg_sub (pv 2) (pe_un un_neg pe_int) set_list))))
          (pss_one (ps_expr (pe_bm PySem.F.plainAttrs_list PySem.F.slot_list_append PySem.F.type_list_append mt_append (pv 2) (pa_cons (pe_tup (pa_cons (pv 3) (pa_cons (pv 4) pa_nil))) pa_nil)))))))
      (pss_one (ps_ret (pe_callTy cr_tupL (by rfl) B.tuple boot_tuple (pa_cons (pv 2) pa_nil)))))), ?_⟩
    refine ⟨_, rfl, v1, 0, d1, rfl, hv1, hp1, fun rs hrs p1 H1 S1 hd1 => ?_, k2⟩
    refine ⟨_, rfl, v2, 1, d2, rfl, hv2.ext (Sub.of S1), hp2, fun ss hss p2 H2 S2 hd2 => ?_, fun z H' S => k3 z H' (S1.trans S)⟩
    refine ⟨_, _, rfl, Nat.zero_le _, fun L hL => ?_⟩
    have hd1 := hd1.ext (Sub.of S2)
    have l1 := needRows_len hrs hp1
    have l2 := needRows_len hss hp2
    obtain ⟨a1, xs, e1, hs1, hxs⟩ := hd1.sq rfl
    cases e1
    obtain ⟨a2, ys, e2, hs2, hys⟩ := hd2.sq rfl
    cases e2
    have hxl := hxs.length
    have hyl := hys.length
    rw [List.length_map] at hxl hyl
    have ht1 : H2 p1 = some (.tup xs) := by
      cases hd1 with
      | tup q r =>
        rcases hs1 with z | z
        · rw [q] at z; cases z
        · exact z
    have ht2 : H2 p2 = some (.tup ys) := by
      cases hd2 with
      | tup q r =>
        rcases hs2 with z | z
        · rw [q] at z; cases z
        · exact z
    have SL : Same H2 (upd H2 L (.lst [])) := Same.new hL
    refine ⟨p1, p2, xs, ys, rfl, rfl, SL _ _ ht1, SL _ _ ht2, (by rw [sizeLine_eq]; omega), fun q H4 S4 hq => ?_⟩
    have S04 : Same H H4 := ((S1.trans S2).trans SL).trans S4
    refine ⟨hT.ext S04, fun f' c' H5 lo hE hT5 hf' hc' hlo => ?_⟩
    have SU : Sub H2 (upd H5 f' lo) := ((Sub.of (SL.trans S4)).trans (Sub.ofN hE)).trans (Sub.new hf')
    have hrows := hxs.append hys
    rw [← List.map_append] at hrows
    have hq5 := hE _ _ hq (fun ps z => by cases z)
    have nc : c' ≠ f' := ne_of_none hc' hf'
    refine ⟨q, f', c', xs ++ ys, rs ++ ss, rfl, rfl, SqT.of (by rw [upd_ne (ne_of_none hq5 hf')]; exact hq5), hrows.ext SU, (by rw [upd_same, hlo]; rfl), (by rw [upd_ne nc]; exact hc'), (by rw [List.length_append]; omega), fun zs ms p hp hperm hsrt hz => ?_⟩
    generalize hHf : upd H5 f' lo = Hf at SU hz hp hq5
    have hL5 : H5 L = some (.lst []) := hE _ _ (S4 _ _ upd_same) (fun ps z => by cases z)
    have hLf : Hf L = some (.lst []) := by rw [← hHf, upd_ne (ne_of_none hL5 hf')]; exact hL5
    have hEf : ExtN H Hf := ((ExtN.of S04).trans hE).trans (ExtN.of (by rw [← hHf]; exact Same.new hf'))
    have hTf : Tabs T Hf := by rw [← hHf]; exact hT5.ext (Same.new hf')
    generalize hH6 : upd Hf p (.lst zs) = H6
    have S6 : Same Hf H6 := by rw [← hH6]; exact Same.new hp
    have hL6 := S6 _ _ hLf
    have hp6 : H6 p = some (.lst zs) := by rw [← hH6]; exact upd_same
    have hpL : p ≠ L := (ne_of_none hLf hp).symm
    have hz6 : DvAll (off L H6) zs (ms.map rowD) := (hz.ext (Sub.of S6)).off hL6 (noList_rows _)
    have hzl := hz6.length
    rw [List.length_map] at hzl
    have hml := hperm.length_eq
    rw [List.length_append] at hml
    have hpo : (off L H6) p = some (.lst zs) := by rw [off_ne hpL]; exact hp6
    have hHL : H L = none := (S1.trans S2).free hL
    refine ⟨p, zs, rfl, .inl hp6, fun J wk => ?_⟩
    refine for_by zs.length (fun i σ H7 => Lg (off L H6) L H7 ((eithRows (ms.take i)).map rowD) ∧ ∃ j3 j4 j5, σ = [some (.ref p1), some (.ref p2), some (.ref L), j3, j4, j5]) ⟨⟨Same.refl _, [], hL6, .nil⟩, none, none, none, rfl⟩
      (fun i σ H7 hi q => wk.go i H7 (by rw [hp6, q.1.same _ _ hpo]) hi) (fun σ H7 q => wk.stop H7 (by rw [hp6, q.1.same _ _ hpo])) (fun i σ H7 y H8 hi q yl => ?_) (fun σ H7 q => ?_)
    · obtain ⟨g, j3, j4, j5, rfl⟩ := q
      obtain ⟨rfl, hy⟩ := wk.yld i H7 _ _ (by rw [hp6, g.same _ _ hpo]) yl
      obtain ⟨r, ra, hr1, rfl, hra⟩ := rows_at hz6 hy
      have es := eith_succ hr1
      refine ⟨ra, _, rfl, SqT.of (g.same _ _ hra), rfl, _, _, rfl, _, _, rfl, rfl, ?_⟩
      obtain ⟨acc, hac, hdv⟩ := g.2
      have hdv' := hdv.ext off_sub
      have hlen : acc.length < sizeLine := by
        rw [g.len hac, List.length_map]
        have := eith_len (ms.take i) []
        rw [List.length_take, List.length_nil] at this
        exact Nat.lt_of_le_of_lt this (by rw [sizeLine_eq]; omega)
      have app : ∀ (rs' : List Row), eithRows (ms.take (i + 1)) = eithRows (ms.take i) ++ [r] → ∀ T, H8 T = none → Lg (off L H6) L (upd (upd H8 T (.tup [.int r.1, optV r.2])) L (.lst (acc ++ [.ref T]))) ((eithRows (ms.take (i + 1))).map rowD) ∧ (upd H8 T (.tup [.int r.1, optV r.2])) L = some (.lst acc) := fun _ e T hT => by
        have gT := g.grow (Same.new (o := .tup [.int r.1, optV r.2]) hT)
        have hacT : (upd H8 T (.tup [.int r.1, optV r.2])) L = some (.lst acc) := by rw [upd_ne (ne_of_none hac hT)]; exact hac
        refine ⟨?_, hacT⟩
        rw [e, List.map_append]
        exact gT.push hacT (Dv.mkRow upd_same) (noList_row _)
      refine ⟨L, acc, eithRows (ms.take i), r.1, rfl, rfl, hac, hdv', fun e0 => ?_, fun init a e0 => ?_⟩
      · have e1 : eithRows (ms.take (i + 1)) = eithRows (ms.take i) ++ [r] := by
          rw [es, e0]
          rfl
        refine iteF ⟨_, rfl, .inl ⟨rfl, _, SqL.of hac⟩, _, rfl, _, rfl, (by show 2 ≤ sizeLine; decide), fun T hT => ?_⟩
        exact ⟨L, acc, _, rfl, rfl, (app [] e1 T hT).2, hlen, (app [] e1 T hT).1, _, _, _, rfl⟩
      · have hgl : (eithRows (ms.take i)).getLast? = some a := by rw [e0]; simp
        unfold eithStep at es
        rw [hgl] at es
        simp only at es
        refine ite2 (fun z => ?_) (fun z => ?_)
        · rw [if_pos z, e0, List.dropLast_concat] at es
          obtain ⟨ai, aa, ea, eal, hai, haa⟩ := last_row hdv' e0
          subst ea
          refine ⟨_, rfl, _, rfl, L, _, -1, .ref aa, rfl, rfl, SqL.of hac, atI_last _ _, aa, _, 1, _, rfl, rfl, SqT.of haa, rfl, ?_⟩
          refine ⟨_, rfl, _, rfl, L, _, -1, .ref aa, rfl, rfl, SqL.of hac, atI_last _ _, aa, _, 0, _, rfl, rfl, SqT.of haa, rfl, ?_⟩
          have fin : ∀ q, q = optV (joinE a.2 r.2) → ∀ T, H8 T = none → Lg (off L H6) L (upd (upd H8 T (.tup [.int a.1, q])) L (.lst ((ai ++ [V.ref aa]).set ai.length (.ref T)))) ((eithRows (ms.take (i + 1))).map rowD) ∧ (upd H8 T (.tup [.int a.1, q])) L = some (.lst (ai ++ [V.ref aa])) := fun q hq T hT => by
            subst hq
            have S8 := Same.new (o := .tup [.int a.1, optV (joinE a.2 r.2)]) hT
            have hacT := S8 _ _ hac
            refine ⟨⟨?_, _, upd_same, ?_⟩, hacT⟩
            · rw [off_upd]
              exact g.1.trans (off_mono S8)
            · rw [off_upd, es, List.map_append, List.set_append_right _ _ (Nat.le_refl _), Nat.sub_self]
              have h1 : DvAll (off L H8) ai (init.map rowD) := hai.off hac (noList_rows _)
              exact (h1.ext (Sub.of (off_mono S8))).snoc ((Dv.mkRow upd_same).off hacT (noList_row _))
          have done : ∀ q, q = optV (joinE a.2 r.2) → ∀ T, H8 T = none → ∃ (p : Addr) (zs : List V) (k : Int) (j : Nat), V.ref L = .ref p ∧ V.int (-1) = .int k ∧ (upd H8 T (.tup [.int a.1, q])) p = some (.lst zs) ∧ ixN zs.length k = some j ∧
              (Lg (off L H6) L (upd (upd H8 T (.tup [.int a.1, q])) p (.lst (zs.set j (.ref T)))) ((eithRows (ms.take (i + 1))).map rowD)) := fun q hq T hT => by
            obtain ⟨f1, f2⟩ := fin q hq T hT
            refine ⟨L, ai ++ [V.ref aa], -1, ai.length, rfl, rfl, f2, ?_, f1⟩
            rw [List.length_append]
            exact ixN_last _
          obtain ⟨b, e⟩ := r
          obtain ⟨a1, a2⟩ := a
          cases a2 with
          | none =>
            refine ⟨_, rfl, rfl, _, rfl, iteT (iteT ⟨(by show 2 ≤ sizeLine; decide), fun T hT => ?_⟩)⟩
            obtain ⟨p', zs', k', j', d1, d2, d3, d4, d5⟩ := done .non rfl T hT
            exact ⟨_, rfl, _, rfl, p', zs', k', j', d1, d2, d3, d4, d5, _, _, _, rfl⟩
          | some x =>
            refine ⟨_, rfl, rfl, _, rfl, iteF ?_⟩
            cases e with
            | none =>
              refine ⟨_, rfl, rfl, _, rfl, iteT ⟨(by show 2 ≤ sizeLine; decide), fun T hT => ?_⟩⟩
              obtain ⟨p', zs', k', j', d1, d2, d3, d4, d5⟩ := done .non rfl T hT
              exact ⟨_, rfl, _, rfl, p', zs', k', j', d1, d2, d3, d4, d5, _, _, _, rfl⟩
            | some y =>
              refine ⟨_, rfl, rfl, _, rfl, iteF ⟨_, rfl, _, rfl, x, y, rfl, (by show 2 ≤ sizeLine; decide), fun T hT => ?_⟩⟩
              obtain ⟨p', zs', k', j', d1, d2, d3, d4, d5⟩ := done (.int (maxI x y)) rfl T hT
              exact ⟨_, rfl, _, rfl, p', zs', k', j', d1, d2, d3, d4, d5, _, _, _, rfl⟩
        · rw [if_neg z] at es
          refine ⟨_, rfl, .inl ⟨rfl, _, SqL.of hac⟩, _, rfl, _, rfl, (by show 2 ≤ sizeLine; decide), fun T hT => ?_⟩
          exact ⟨L, acc, _, rfl, rfl, (app [] es T hT).2, hlen, (app [] es T hT).1, _, _, _, rfl⟩
    · obtain ⟨g, j3, j4, j5, rfl⟩ := q
      have e3 : ms.take zs.length = ms := by rw [hzl, List.take_length]
      rw [e3] at g
      obtain ⟨acc, hac, hdv⟩ := g.2
      refine ⟨_, rfl, L, acc, rfl, .inl ⟨SqL.of hac, fun q hq => ?_⟩⟩
      have hE6 : ExtN H (off L H6) := fun b o hb hn => by
        rw [off_ne (ne_of_none hb hHL)]
        exact S6 _ _ (hEf b o hb hn)
      refine k1 rs ss hrs hss ms hperm hsrt q _ ((hE6.trans (ExtN.of g.same)).trans (ExtN.of (Same.new hq))) ?_ (g.fin hac hq)
      exact Tabs.ext (Tabs.ext (Tabs.offL (hTf.ext S6) hL6) g.same) (Same.new hq)
end
end K7
end

section
set_option Elab.async false
set_option linter.all false
set_option maxRecDepth 100000
set_option maxHeartbeats 4000000
/-! The law's draws: the box, take, pick. -/
namespace K7
open PySem L2
/-- the box of draws at p -/
def Bx (p : Addr) (H : Hp) : Prop := ∃ a b c : Int, H p = some (.lst [.int a, .int b, .int c])
section
variable {P : Program} {w : World} {K : PySem.W.Frag} {mg : Str → Option Value} {base : Heap}
/-- all but the box's object stays -/
def spTake : Sp := fun vs H Q _ => ∃ p m, vs = [.ref p, .int m] ∧ Bx p H ∧ 0 < m ∧ m < 1073741824 ∧ ∀ d a b c : Int, 0 ≤ d → d < m → Q (.int d) (upd H p (.lst [.int a, .int b, .int c]))
abbrev nTake : List Str := ["_law_box_here", "_law_many", "_law_digit", "_law_raw"]
theorem ndTake : nTake.Nodup := by decide +kernel
theorem scTake : FnScope nTake ["_law_box_here", "_law_many"] (defScope sTake) := ⟨rfl, rfl, rfl, by decide +kernel, rfl, by decide +kernel, by decide +kernel⟩
theorem cmulL {i j : Int} (h1 : -(2 ^ 64) < i) (h2 : i < 2 ^ 64) : CMul i j := .inl ⟨h1, h2⟩
theorem cmulR {i j : Int} (h1 : -(2 ^ 64) < j) (h2 : j < 2 ^ 64) : CMul i j := .inr ⟨h1, h2⟩
theorem ok_take {f : Addr} {fd : FuncData} (F : FnP K "_law_take" sTake [] f fd) (B : Blt mg) : FnOk P w K mg base CX0 1 f fd ["_law_box_here", "_law_many"] spTake := by
  refine F.ok scTake (fun vs H Q E h => ?_) (fun cdv A outer s H vs Q E hr h => ?_)
  · obtain ⟨p, m, rfl, _⟩ := h
    rfl
  · obtain ⟨p, m, rfl, ⟨a, b, c, hp⟩, hm, hm2, k⟩ := h
    refine ⟨_, pss_cons (ps_if (pt_cmpR op_gt (pe_ix ix_list (pv 0) pe_int (fun _ _ => rfl)) pe_int (nomark _))
        (pss_cons (ps_set (i := 2) ndTake rfl (Or.inl rfl) (pe_op op_mod (pe_callTy call_int1 (by rfl) B.int boot_int (pa_cons (pe_ix ix_list (pv 0) pe_int (fun _ _ => rfl)) pa_nil)) (pv 1)))
        (pss_cons (ps_asg (pe_op op_fdiv (pe_ix ix_list (pv 0) pe_int (fun _ _ => rfl)) (pv 1)) (pg_sub (pv 0) pe_int set_list))
        (pss_one (ps_ret (pv 2))))) pss_nil)
      (pss_cons (ps_asg (pe_op op_add (pe_ix ix_list (pv 0) pe_int (fun _ _ => rfl)) pe_int) (pg_sub (pv 0) pe_int set_list))
      (pss_cons (ps_set (i := 3) ndTake rfl (Or.inl rfl) (pe_op op_mod (pe_callTy call_int1 (by rfl) B.int boot_int (pa_cons (pe_op op_add (pe_op op_mul (pe_op op_add (pe_ix ix_list (pv 0) pe_int (fun _ _ => rfl)) (pe_op op_mul pe_int (pe_ix ix_list (pv 0) pe_int (fun _ _ => rfl)))) pe_int) pe_int) pa_nil)) pe_int))
      (pss_cons (ps_asg (pe_op op_add (pe_op op_mod (pe_callTy call_int1 (by rfl) B.int boot_int (pa_cons (pe_op op_add (pe_op op_mul (pv 3) pe_int) pe_int) pa_nil)) pe_int) pe_int) (pg_sub (pv 0) pe_int set_list))
      (pss_one (ps_ret (pe_op op_mod (pe_callTy call_int1 (by rfl) B.int boot_int (pa_cons (pe_op op_fdiv (pe_op op_add (pe_op op_mul (pv 3) pe_int) (pe_ix ix_list (pv 0) pe_int (fun _ _ => rfl))) pe_int) pa_nil)) (pv 1))))))), ?_⟩
    have g0 : ∀ {x y z : V}, atI [x, y, z] 0 = some x := rfl
    have g1 : ∀ {x y z : V}, atI [x, y, z] 1 = some y := rfl
    have g2 : ∀ {x y z : V}, atI [x, y, z] 2 = some z := rfl
    refine ⟨_, rfl, p, _, 0, _, rfl, rfl, SqL.of hp, g0, a, 0, rfl, rfl, _, rfl, ite2 (fun z => ?_) (fun z => ?_)⟩
    · refine ⟨_, rfl, p, _, 0, _, rfl, rfl, SqL.of hp, g0, .inl ⟨a, rfl, _, rfl, a, m, rfl, rfl, hm, ?_⟩⟩
      refine ⟨_, rfl, p, _, 0, _, rfl, rfl, SqL.of hp, g0, _, rfl, a, m, rfl, rfl, ⟨hm, hm2⟩, ?_⟩
      refine ⟨_, rfl, p, _, 0, 0, rfl, rfl, hp, rfl, ?_⟩
      exact ⟨_, rfl, k (a % m) (a / m) b c (Int.emod_nonneg _ (by omega)) (Int.emod_lt_of_pos _ hm)⟩
    · refine ⟨_, rfl, p, _, 2, _, rfl, rfl, SqL.of hp, g2, c, 1, rfl, rfl, ?_⟩
      refine ⟨_, rfl, p, _, 2, 2, rfl, rfl, hp, rfl, ?_⟩
      have h1 : (upd H p (.lst [.int a, .int b, .int (c + 1)])) p = some (.lst [.int a, .int b, .int (c + 1)]) := upd_same
      refine ⟨_, rfl, p, _, 1, _, rfl, rfl, SqL.of h1, g1, _, rfl, p, _, 2, _, rfl, rfl, SqL.of h1, g2, 90023, c + 1, rfl, rfl, cmulL (by decide) (by decide), _, _, rfl, rfl, _, 58217, rfl, rfl, cmulR (by decide) (by decide), _, 43, rfl, rfl, .inl ⟨_, rfl, _, 2147483563, rfl, rfl, (show (0 : Int) < 2147483563 by decide), ?_⟩⟩
      refine ⟨_, rfl, _, 40289, rfl, rfl, cmulR (by decide) (by decide), _, 27367, rfl, rfl, .inl ⟨_, rfl, _, 2147483629, rfl, rfl, (show (0 : Int) < 2147483629 by decide), _, 1, rfl, rfl, ?_⟩⟩
      refine ⟨_, rfl, p, _, 1, 1, rfl, rfl, h1, rfl, ?_⟩
      refine ⟨_, rfl, _, 2147483647, rfl, rfl, cmulR (by decide) (by decide), _, rfl, p, _, 1, _, rfl, rfl, SqL.of upd_same, g1, _, _, rfl, rfl, _, 8191, rfl, rfl, ⟨by decide, by decide⟩, .inl ⟨_, rfl, _, rfl, _, m, rfl, rfl, hm, ?_⟩⟩
      rw [upd_upd]
      exact k _ _ _ _ (Int.emod_nonneg _ (by omega)) (Int.emod_lt_of_pos _ hm)
/-! ### pick, box -/
def spPick : Sp := fun vs H Q _ => ∃ p q xs, vs = [.ref p, .ref q] ∧ Bx p H ∧ H q = some (.lst xs) ∧ q ≠ p ∧ xs ≠ [] ∧ xs.length ≤ 1000 ∧ ∀ (i : Nat) v (a b c : Int), xs[i]? = some v → Q v (upd H p (.lst [.int a, .int b, .int c]))
abbrev nPick : List Str := ["_law_box_here", "_law_some"]
theorem scPick : FnScope nPick nPick (defScope sPick) := ⟨rfl, rfl, rfl, by decide +kernel, rfl, by decide +kernel, by decide +kernel⟩
theorem ok_pick {f : Addr} {fd : FuncData} (F : FnP K "_law_pick" sPick [] f fd) (cT : Fn7 P w K mg base CX0 1 "_law_take" spTake []) (B : Blt mg) : FnOk P w K mg base CX0 2 f fd nPick spPick := by
  refine F.ok scPick (fun vs H Q E h => ?_) (fun cdv A outer s H vs Q E hr h => ?_)
  · obtain ⟨p, q, xs, rfl, _⟩ := h
    rfl
  · obtain ⟨p, q, xs, rfl, hb, hq, hne, hx, hl, k⟩ := h
    refine ⟨_, pss_one (ps_ret (pe_ix ix_list (pv 1) (pe_f cT hr (by decide) (by rfl) (pa_cons (pv 0) (pa_cons (pe_callB call_len_seq (by rfl) B.len boot_len (pa_cons (pv 1) pa_nil)) pa_nil))) (fun _ _ => rfl))), ?_⟩
    have h0 : 0 < xs.length := List.length_pos_iff.mpr hx
    refine ⟨_, rfl, _, rfl, _, rfl, q, xs, rfl, .inl (SqL.of hq), p, _, rfl, hb, by omega, by omega, fun d a b c h1 h2 => ?_⟩
    obtain ⟨j, rfl⟩ : ∃ j : Nat, d = (j : Int) := ⟨d.toNat, by omega⟩
    have hj : j < xs.length := by omega
    exact ⟨q, xs, _, _, rfl, rfl, SqL.of (by rw [upd_ne hne]; exact hq), atI_nat (List.getElem?_eq_getElem hj), k j _ a b c (List.getElem?_eq_getElem hj)⟩
def spBox (K : PySem.W.Frag) : Sp := fun vs H Q _ => ∃ (q : Addr) (ns : List Int) (k : Nat), vs = [.ref q, .int (k : Int)] ∧ SqL K H q (ns.map V.int) ∧ ns.length ≤ 1000 ∧ k < 4 ∧ ∀ p H', Same H H' → H p = none → Bx p H' → Q (.ref p) H'
abbrev nBox : List Str := ["_law_script", "_law_k", "_law_cell"]
theorem ndBox : nBox.Nodup := by decide +kernel
theorem scBox : FnScope nBox ["_law_script", "_law_k"] (defScope sBox) := ⟨rfl, rfl, rfl, by decide +kernel, rfl, by decide +kernel, by decide +kernel⟩
theorem ok_box {f : Addr} {fd : FuncData} (F : FnP K "_law_box" sBox [] f fd) (B : Blt mg) : FnOk P w K mg base CX0 1 f fd ["_law_script", "_law_k"] (spBox K) := by
  refine F.ok scBox (fun vs H Q E h => ?_) (fun cdv A outer s H vs Q E hr h => ?_)
  · obtain ⟨q, ns, k, rfl, _⟩ := h
    rfl
  · obtain ⟨q, ns, j, rfl, hq, hl, hj, k⟩ := h
    refine ⟨_, pss_cons (ps_set (i := 2) ndBox rfl (Or.inl rfl) (pe_op op_add (pe_op op_mul pe_int (pv 1)) pe_int))
      (C8.pss_cut (ps_if (pt_cmpR op_lt (pv 1) (pe_callB call_len_seq (by rfl) B.len boot_len (pa_cons (pv 0) pa_nil)) (nomark _))
        (pss_one (ps_set (i := 2) ndBox rfl (Or.inl rfl) (pe_callB call_abs (by rfl) B.abs b7_abs (pa_cons (pe_ix ix_list (pv 0) (pv 1) (fun _ _ => rfl)) pa_nil))))
        (pss_one (ps_if (pt_cmpR op_gt (pe_callB call_len_seq (by rfl) B.len boot_len (pa_cons (pv 0) pa_nil)) pe_int (nomark _))
          (pss_one (ps_set (i := 2) ndBox rfl (Or.inl rfl) (pe_op op_add (pv 2) (pe_op op_mul (pe_op op_mod (pe_callTy call_int1 (by rfl) B.int boot_int (pa_cons (pe_callB call_abs (by rfl) B.abs b7_abs (pa_cons (pe_ix ix_list (pv 0) (pe_op op_mod (pe_callTy call_int1 (by rfl) B.int boot_int (pa_cons (pv 1) pa_nil)) (pe_callB call_len_seq (by rfl) B.len boot_len (pa_cons (pv 0) pa_nil))) (fun _ _ => rfl)) pa_nil)) pa_nil)) pe_int) pe_int)))) pss_nil)))
      (pss_one (ps_ret (pe_lst (pa_cons (pe_ix ix_list (pe_lst (pa_cons pe_int (pa_cons (pv 2) pa_nil))) (pe_callTy call_int1 (by rfl) B.int boot_int (pa_cons (pe_cmpR op_ge (pv 2) (pe_op op_pow pe_int pe_int) (nomark _)) pa_nil)) (fun _ _ => rfl))
        (pa_cons (pe_op op_add (pe_op op_mod (pe_callTy call_int1 (by rfl) B.int boot_int (pa_cons (pe_op op_add (pe_op op_mul (pe_op op_mod (pe_callTy call_int1 (by rfl) B.int boot_int (pa_cons (pv 2) pa_nil)) pe_int) pe_int) (pe_op op_mul pe_int (pv 1))) pa_nil)) pe_int) pe_int)
        (pa_cons pe_int pa_nil))))))), ?_⟩
    have at_ : ∀ i : Nat, i < ns.length → ∃ x : Int, (ns.map V.int)[i]? = some (V.int x) := fun i hi => ⟨ns[i], by rw [List.getElem?_map, List.getElem?_eq_getElem hi]; rfl⟩
    have hll : (ns.map V.int).length = ns.length := List.length_map _
    refine ⟨_, rfl, 8123, (j : Int), rfl, rfl, cmulL (by decide) (by decide), _, 547, rfl, rfl, ?_⟩
    refine ⟨fun σ' H' => H' = H ∧ ∃ x : Int, σ' = [some (.ref q), some (.int j), some (.int x)], ?_, ?_⟩
    · refine ⟨_, rfl, _, rfl, q, _, rfl, .inl hq, _, _, rfl, rfl, _, rfl, ite2 (fun z => ?_) (fun z => ?_)⟩
      · have hlt := of_decide_eq_true z
        rw [hll] at hlt
        obtain ⟨x, hx⟩ := at_ j (by omega)
        exact ⟨_, rfl, _, rfl, q, _, _, _, rfl, rfl, hq, atI_nat hx, x, rfl, rfl, _, rfl⟩
      · refine ⟨_, rfl, q, _, rfl, .inl hq, _, 0, rfl, rfl, _, rfl, ite2 (fun z => ?_) (fun z => ?_)⟩
        · have hlt : 0 < ((ns.map V.int).length : Int) := of_decide_eq_true z
          have hm0 : 0 ≤ (j : Int) % ((ns.map V.int).length : Int) := Int.emod_nonneg _ (by omega)
          have hm1 : (j : Int) % ((ns.map V.int).length : Int) < ((ns.map V.int).length : Int) := Int.emod_lt_of_pos _ hlt
          obtain ⟨i, hi⟩ : ∃ i : Nat, (j : Int) % ((ns.map V.int).length : Int) = (i : Int) := ⟨((j : Int) % ((ns.map V.int).length : Int)).toNat, by omega⟩
          rw [hi] at hm1
          obtain ⟨x, hx⟩ := at_ i (by omega)
          refine ⟨_, rfl, _, rfl, _, rfl, .inl ⟨_, rfl, _, rfl, q, _, rfl, .inl hq, _, _, rfl, rfl, hlt, q, _, _, _, rfl, rfl, hq, (by rw [hi]; exact atI_nat hx), x, rfl, .inl ⟨_, rfl, _, 2147483629, rfl, rfl, (show (0 : Int) < 2147483629 by decide), _, 60107, rfl, rfl, cmulR (by decide) (by decide), _, _, rfl, rfl, rfl, _, rfl⟩⟩⟩
        · exact ⟨rfl, _, rfl⟩
    · rintro σ' H' ⟨rfl, x, rfl⟩
      refine ⟨_, rfl, (by show 2 ≤ sizeLine; decide), fun l hl1 => ?_⟩
      refine ⟨_, rfl, 10, 18, rfl, rfl, ⟨by decide, by decide, by decide⟩, x, _, rfl, rfl, .inr ⟨_, rfl, ?_⟩⟩
      have S1 : Same H' (upd H' l (.lst [.int 0, .int x])) := Same.new hl1
      obtain ⟨y, hy⟩ : ∃ y : Int, atI [V.int 0, V.int x] (if (decide ((10 : Int) ^ (18 : Int).toNat ≤ x)) = true then 1 else 0) = some (V.int y) := by
        split
        · exact ⟨x, rfl⟩
        · exact ⟨0, rfl⟩
      refine ⟨l, _, _, _, rfl, rfl, SqL.of upd_same, hy, ?_⟩
      refine ⟨_, rfl, .inl ⟨x, rfl, x, 2147483629, rfl, rfl, (show (0 : Int) < 2147483629 by decide), _, 38371, rfl, rfl, cmulR (by decide) (by decide), _, rfl, 71147, _, rfl, rfl, cmulL (by decide) (by decide), _, _, rfl, rfl, .inl ⟨_, rfl, _, 2147483629, rfl, rfl, (show (0 : Int) < 2147483629 by decide), _, 1, rfl, rfl, ?_⟩⟩⟩
      refine ⟨(by show 3 ≤ sizeLine; decide), fun r hr2 => ?_⟩
      exact k r _ (S1.trans (Same.new hr2)) (S1.free hr2) ⟨_, _, _, upd_same⟩
end
end K7
end

section
set_option Elab.async false
set_option linter.all false
set_option maxRecDepth 100000
set_option maxHeartbeats 4000000
/-! The law's has, row_of. -/
namespace K7
open PySem L2
mutual
theorem eqv_self : ∀ d : PyData, d.canLay0 = true → PyData.eqv d d = true
  | .none, _ => rfl
  | .bool b, _ => by simp [PyData.eqv]
  | .int i, _ => by simp [PyData.eqv]
  | .str x, _ => by simp [PyData.eqv]
  | .list xs, h => by rw [PyData.eqv]; exact eqvAll_self xs (by simpa [PyData.canLay0] using h)
  | .tuple xs, h => by rw [PyData.eqv]; exact eqvAll_self xs (by simpa [PyData.canLay0] using h)
  | .dict _, h => by simp [PyData.canLay0] at h
theorem eqvAll_self : ∀ ds : List PyData, PyData.canLayAll0 ds = true → PyData.eqvAll ds ds = true
  | [], _ => rfl
  | d :: ds, h => by
    simp only [PyData.canLayAll0, Bool.and_eq_true] at h
    rw [PyData.eqvAll, eqv_self d h.1, eqvAll_self ds h.2]
    rfl
end
theorem row_lay (r : Row) : (rowD r).canLay0 = true := by
  obtain ⟨b, e⟩ := r
  cases e <;> simp [rowD, optD, PyData.canLay0, PyData.canLayAll0]
theorem row_dep (r : Row) : (rowD r).depth = 1 := by
  obtain ⟨b, e⟩ := r
  cases e <;> simp [rowD, optD, PyData.depth, PyData.depthAll]
theorem rows_lay : ∀ rs : List Row, PyData.canLayAll0 (rs.map rowD) = true
  | [] => rfl
  | r :: rs => by rw [List.map_cons, PyData.canLayAll0, row_lay, rows_lay rs]; rfl
theorem rows_dep : ∀ rs : List Row, PyData.depthAll (rs.map rowD) ≤ 1
  | [] => by simp [PyData.depthAll]
  | r :: rs => by
    rw [List.map_cons, PyData.depthAll, row_dep]
    have := rows_dep rs
    omega
theorem shaped_tup (rs : List Row) : SeqAt.shaped (.tuple (rs.map rowD)) = true := by
  have := rows_dep rs
  simp [SeqAt.shaped, PyData.canLay0, rows_lay, PyData.depth]
  omega
theorem shaped_lst (rs : List Row) : SeqAt.shaped (.list (rs.map rowD)) = true := by
  have := rows_dep rs
  simp [SeqAt.shaped, PyData.canLay0, rows_lay, PyData.depth]
  omega
theorem shaped_nil : SeqAt.shaped (.list []) = true := by simp [SeqAt.shaped, PyData.canLay0, PyData.canLayAll0, PyData.depth, PyData.depthAll]
theorem eqv_nil (ds : List PyData) : PyData.eqv (.list ds) (.list []) = ds.isEmpty := by
  cases ds <;> simp [PyData.eqv, PyData.eqvAll]
def memR (rs : List Row) (t : Int) : Bool := rs.any fun r => has1 r t
theorem filt_any {α : Type} (f : α → Bool) : ∀ l : List α, (!(l.filter f).isEmpty) = l.any f
  | [] => rfl
  | x :: l => by
    rw [List.any_cons]
    by_cases h : f x = true
    · rw [List.filter_cons_of_pos h, h]
      rfl
    · rw [List.filter_cons_of_neg h, filt_any f l]
      simp [h]
/-- row[0] <= tick and (row[1] is None or tick < row[1]): row in slot i, tick in slot j -/
def tHas (i j : Nat) : TT := fun σ H Q => ∃ a r t, σ[i]? = some (some (.ref a)) ∧ H a = some (.tup [.int r.1, optV r.2]) ∧ σ[j]? = some (some (.int t)) ∧ Q (has1 r t) H
theorem tHas_to {K : PySem.W.Frag} {i j : Nat} {σ : St} {H : Hp} {Q : Bool → Hp → Prop} (h : tHas i j σ H Q) :
    tAnd (tTest (tOp (rI0 fun i j => .bl (decide (i ≤ j))) (tOp (rIxT K) (tVar i) (tC (.int 0))) (tVar j)))
      (tOr (tTest (tOp (fun x y H Q => y = .non ∧ Q (.bl (decide (x = .non))) H) (tOp (rIxT K) (tVar i) (tC (.int 1))) (tC .non))) (tTest (tOp (rI0 fun i j => .bl (decide (i < j))) (tVar j) (tOp (rIxT K) (tVar i) (tC (.int 1)))))) σ H Q := by
  obtain ⟨a, r, t, h1, h2, h3, q⟩ := h
  obtain ⟨b, e⟩ := r
  refine ⟨_, h1, a, _, 0, _, rfl, rfl, SqT.of h2, rfl, _, h3, b, t, rfl, rfl, _, rfl, ?_⟩
  unfold has1 at q
  refine ite2 (fun z => ?_) (fun z => ?_)
  · have e1 : decide (b ≤ t) = true := z
    simp only [e1, Bool.true_and] at q
    refine ⟨_, h1, a, _, 1, _, rfl, rfl, SqT.of h2, rfl, rfl, _, rfl, ?_⟩
    cases e with
    | none => exact iteT q
    | some e => exact iteF ⟨_, h3, _, h1, a, _, 1, _, rfl, rfl, SqT.of h2, rfl, t, e, rfl, rfl, _, rfl, q⟩
  · have e1 : decide (b ≤ t) = false := by simpa using z
    simp only [e1, Bool.false_and] at q
    exact q
section
variable {P : Program} {w : World} {K : PySem.W.Frag} {mg : Str → Option Value} {base : Heap}
def spHas : Sp := fun vs H Q _ => ∃ v t rs, vs = [v, .int t] ∧ Dv H v (.list (rs.map rowD)) ∧ rs.length ≤ 1000 ∧ ∀ H', Same H H' → Q (.bl (memR rs t)) H'
abbrev nHas : List Str := ["_law_rows", "_law_tick", "_law_row"]
theorem ndHas : nHas.Nodup := by decide +kernel
theorem scHas : FnScope nHas ["_law_rows", "_law_tick"] (defScope sHas) := ⟨rfl, rfl, rfl, by decide +kernel, rfl, by decide +kernel, by decide +kernel⟩
theorem ok_has {f : Addr} {fd : FuncData} (F : FnP K "_law_has" sHas [] f fd) : FnOk P w K mg base CX0 1 f fd ["_law_rows", "_law_tick"] spHas := by
  refine F.ok scHas (fun vs H Q E h => ?_) (fun cdv A outer s H vs Q E hr h => ?_)
  · obtain ⟨v, t, rs, rfl, _⟩ := h
    rfl
  · obtain ⟨v, t, rs, rfl, hv, hl, k⟩ := h
    refine ⟨_, pss_one (ps_ret (pe_cmpR (op_neD hr.units) (pe_lc (tt := tHas 2 1) (own := [("_law_row", 2)]) (g := gName 2) rfl ndHas (pi_seqS (pv 0)) (blkOk_by (own := [("_law_row", 2)]) (N := nHas) (sc := defScope sHas) (by decide +kernel))
          (fun _ _ _ _ _ => pg_name (i := 2) ndHas rfl (Or.inl rfl))
          (fun _ _ _ _ _ => pts_one (PT.imp (pw_and (pt_cmpR op_le (pe_ix ix_tup (pv 2) pe_int (fun _ _ => rfl)) (pv 1) (nomark _)) (pw_and1 (pw_or (pt_cmpR op_isN (pe_ix ix_tup (pv 2) pe_int (fun _ _ => rfl)) pe_non (nomark _)) (pw_or1 (pt_cmpR op_lt (pv 1) (pe_ix ix_tup (pv 2) pe_int (fun _ _ => rfl)) (nomark _)))).pt)).pt fun σ H Q h => tHas_to h))
          (fun _ _ _ _ _ => pv 2)) (pe_lst pa_nil) (nomark _))), ?_⟩
    obtain ⟨a, xs, rfl, hs, hxs⟩ := hv.sq rfl
    have hxl := hxs.length
    rw [List.length_map] at hxl
    refine ⟨_, rfl, a, xs, rfl, hs, fun J wk D hD => ?_⟩
    refine lc_dv xs.length (fun j => ((rs.take j).filter fun r => has1 r t).map rowD) hD rfl (fun j hj => small1000 ?_) (fun j H3 hj S3 => wk.go j H3 (hs.eq (Same.refl _) S3) hj) (fun H3 S3 => wk.stop H3 (hs.eq (Same.refl _) S3)) (fun j H3 y H4 acc N hj S3 ha yl hN hS => ?_) (fun H3 zs S3 hD3 hz => ?_)
    · rw [List.length_map]
      refine Nat.le_trans (List.length_filter_le _ _) ?_
      rw [List.length_take]
      omega
    · obtain ⟨rfl, hy⟩ := wk.yld j H3 _ _ (hs.eq (Same.refl _) S3) yl
      obtain ⟨r, ra, hr1, rfl, hra⟩ := rows_at hxs hy
      have es := filt_succ (f := fun r => has1 r t) hr1
      refine ⟨rfl, ra, r, t, rfl, S3 _ _ hra, rfl, ?_⟩
      refine ite2 (fun z => ⟨_, rfl, ?_⟩) (fun z => ?_)
      · rw [if_pos z] at es
        refine hN _ _ (rowD r) (Same.refl _) (Dv.off ha (Dv.mkRow (S3 _ _ hra)) (noList_row _)) ?_
        show List.map _ (List.filter _ (List.take (j + 1) _)) = _
        rw [es, List.map_append]
        rfl
      · rw [if_neg z] at es
        refine hS _ (Same.refl _) ?_
        show List.map _ (List.filter _ (List.take (j + 1) _)) = _
        rw [es]
    · have e3 : rs.take xs.length = rs := by rw [hxl, List.take_length]
      have hz1 : DvAll (off D H3) zs (((rs.take xs.length).filter fun r => has1 r t).map rowD) := hz
      rw [e3] at hz1
      refine ⟨Nat.zero_le _, fun M hM => ?_⟩
      have SM := Same.new (o := .lst []) hM
      refine ⟨.list ((rs.filter fun r => has1 r t).map rowD), .list [], (Dv.lst (SM _ _ hD3) ((hz1.ext off_sub).ext (Sub.of SM))).dp, (Dv.lst upd_same .nil).dp, shaped_lst _, shaped_nil, ?_⟩
      rw [eqv_nil]
      have e4 : (!((rs.filter fun r => has1 r t).map rowD).isEmpty) = memR rs t := by
        unfold memR
        rw [← filt_any]
        cases (rs.filter fun r => has1 r t) <;> rfl
      rw [e4]
      exact k _ (S3.trans SM)
end
end K7
end

section
set_option Elab.async false
set_option linter.all false
set_option maxRecDepth 100000
set_option maxHeartbeats 4000000
/-! The law's row_of. -/
namespace K7
open PySem L2
def rowStep (p : List Row × Option Int) (t : Int) (h : Bool) : List Row × Option Int := match p.2, h with
  | none, true => (p.1, some t)
  | some b, true => (p.1, some b)
  | none, false => (p.1, none)
  | some b, false => (p.1 ++ [(b, some t)], none)
def rowFold (T : List Bool) : Nat → List Row × Option Int
  | 0 => ([], none)
  | i + 1 => rowStep (rowFold T i) (i : Int) (T.getD i false)
def rowsOf (T : List Bool) : List Row := match (rowFold T T.length).2 with
  | none => (rowFold T T.length).1
  | some b => (rowFold T T.length).1 ++ [(b, none)]
theorem rowFold_len (T : List Bool) : ∀ i, (rowFold T i).1.length ≤ i
  | 0 => Nat.le_refl _
  | i + 1 => by
    have ih := rowFold_len T i
    show (rowStep (rowFold T i) (i : Int) (T.getD i false)).1.length ≤ i + 1
    unfold rowStep
    split <;> simp only [List.length_append, List.length_cons, List.length_nil] <;> omega
section
variable {P : Program} {w : World} {K : PySem.W.Frag} {mg : Str → Option Value} {base : Heap}
def spRow : Sp := fun vs H Q _ => ∃ v, ∃ T : List Bool, ∃ n : Nat, vs = [v, .int (n : Int)] ∧ Dv H v (.list (T.map PyData.bool)) ∧ T.length = n + 1 ∧ n ≤ 900 ∧ ∀ p H', Same H H' → H p = none → Dv H' (.ref p) (.tuple ((rowsOf T).map rowD)) → Q (.ref p) H'
abbrev nRow : List Str := ["_law_has_here", "_law_last", "_law_rows", "_law_begin", "_law_tick"]
theorem ndRow : nRow.Nodup := by decide +kernel
theorem scRow : FnScope nRow ["_law_has_here", "_law_last"] (defScope sRow) := ⟨rfl, rfl, rfl, by decide +kernel, rfl, by decide +kernel, by decide +kernel⟩
theorem ok_row {f : Addr} {fd : FuncData} (F : FnP K "_law_row_of" sRow [] f fd) (B : Blt mg) : FnOk P w K mg base CX0 1 f fd ["_law_has_here", "_law_last"] spRow := by
  refine F.ok scRow (fun vs H Q E h => ?_) (fun cdv A outer s H vs Q E hr h => ?_)
  · obtain ⟨v, T, n, rfl, _⟩ := h
    rfl
  · obtain ⟨v, T, n, rfl, hv, hl, hn, k⟩ := h
    refine ⟨_, pss_cons (ps_par (i := 2) (j := 3) rfl ndRow rfl rfl (by decide) rfl rfl (pa_cons (pe_lst pa_nil) (pa_cons pe_non pa_nil)) rfl)
      (pss_cons (ps_for (passes_of rfl) rfl (pi_range1 (by rfl) B.range (pa_cons (pe_op op_add (pv 1) pe_int) pa_nil)) (pg_name (i := 4) ndRow rfl (Or.inl rfl))
        (C8.pss_cut (ps_if (pw_and (pt_val (pe_ix ix_list (pv 0) (pv 4) (fun _ _ => rfl))) (pw_and1 (pt_cmpR op_isN (pv 3) pe_non (nomark _)))).pt (pss_one (ps_set (i := 3) ndRow rfl (Or.inl rfl) (pv 4))) pss_nil)
        (pss_one (ps_if (pw_and (pt_not (pt_val (pe_ix ix_list (pv 0) (pv 4) (fun _ _ => rfl)))) (pw_and1 (pt_cmpR op_notN (pv 3) pe_non (nomark _)))).pt
          (pss_cons (ps_expr (pe_bm PySem.F.plainAttrs_list PySem.F.slot_list_append PySem.F.type_list_append mt_append (pv 2) (pa_cons (pe_tup (pa_cons (pv 3) (pa_cons (pv 4) pa_nil))) pa_nil)))
            (pss_one (ps_set (i := 3) ndRow rfl (Or.inl rfl) pe_non))) pss_nil))))
      (C8.pss_cut (ps_if (pt_cmpR op_notN (pv 3) pe_non (nomark _)) (pss_one (ps_expr (pe_bm PySem.F.plainAttrs_list PySem.F.slot_list_append PySem.F.type_list_append mt_append (pv 2) (pa_cons (pe_tup (pa_cons (pv 3) (pa_cons pe_non pa_nil))) pa_nil)))) pss_nil)
      (pss_one (ps_ret (pe_callTy cr_tupL (by rfl) B.tuple boot_tuple (pa_cons (pv 2) pa_nil)))))), ?_⟩
    cases hv with
    | lst ha hxs =>
    rename_i a xs
    have ex := hxs.to_bls
    subst ex
    refine ⟨Nat.zero_le _, fun L hL => ⟨_, _, rfl, ?_⟩⟩
    have SL : Same H (upd H L (.lst [])) := Same.new hL
    have e0 : ((n : Int) + 1).toNat = n + 1 := by omega
    refine ⟨_, rfl, n, 1, rfl, rfl, (n : Int) + 1, rfl, by omega, by omega, ?_⟩
    rw [e0]
    have tAt : ∀ i, i < n + 1 → (T.map V.bl)[i]? = some (V.bl (T.getD i false)) := fun i hi => by
      rw [List.getElem?_map, List.getElem?_eq_getElem (by omega), List.getD_eq_getElem?_getD, List.getElem?_eq_getElem (by omega)]
      rfl
    refine for_by (n + 1) (fun i σ H2 => Lg H L H2 ((rowFold T i).1.map rowD) ∧ ∃ j, σ = [some (.ref a), some (.int n), some (.ref L), some (optV (rowFold T i).2), j]) ⟨Lg.start hL, none, rfl⟩
      (fun i σ H2 hi q => hi) (fun σ H2 q => Nat.le_refl _) (fun i σ H2 y H3 hi q yl => ?_) (fun σ H2 q => ?_)
    · obtain ⟨g, j, rfl⟩ := q
      obtain ⟨rfl, rfl⟩ := yl
      have hai := g.same _ _ ha
      have hT := tAt i hi
      have ez : (0 : Int) + (i : Int) = (i : Int) := by omega
      rw [ez]
      have ix : ∀ {H'}, H' a = some (.lst (T.map V.bl)) → ∀ {k : V → Hp → Prop}, k (V.bl (T.getD i false)) H' → ∃ p xs i_1 v, V.ref a = V.ref p ∧ V.int (i : Int) = V.int i_1 ∧ SqL K H' p xs ∧ atI xs i_1 = some v ∧ k v H' := fun h k q => ⟨a, _, _, _, rfl, rfl, SqL.of h, atI_nat hT, q⟩
      show gName 4 (.int i) _ H3 _
      have es : rowFold T (i + 1) = rowStep (rowFold T i) (i : Int) (T.getD i false) := rfl
      have hlen := rowFold_len T i
      obtain ⟨acc', hac, hdv⟩ := g.2
      have hal := g.len hac
      rw [List.length_map] at hal
      generalize hpp : rowFold T i = pp at g es hlen hal
      obtain ⟨acc, b⟩ := pp
      generalize hhb : T.getD i false = hb at es hT ix
      refine ⟨fun σ' H' => H' = H3 ∧ σ' = [some (.ref a), some (.int n), some (.ref L), some (optV (if hb = true then (if b = none then some (i : Int) else b) else b)), some (.int i)], ?_, ?_⟩
      · refine ⟨_, rfl, _, rfl, a, _, _, _, rfl, rfl, SqL.of hai, atI_nat hT, hb, rfl, ?_⟩
        cases hb with
        | false => exact iteF (iteF ⟨rfl, rfl⟩)
        | true =>
          refine iteT ⟨_, rfl, rfl, _, rfl, ?_⟩
          cases b with
          | none => exact iteT ⟨_, rfl, rfl, rfl⟩
          | some b => exact iteF ⟨rfl, rfl⟩
      · rintro σ' H' ⟨rfl, rfl⟩
        refine ⟨_, rfl, _, rfl, a, _, _, _, rfl, rfl, SqL.of hai, atI_nat hT, hb, rfl, ?_⟩
        cases hb with
        | true =>
          refine iteF (iteF ⟨?_, some (.int i), ?_⟩)
          · rw [es]
            cases b <;> exact g
          · rw [es]
            cases b <;> rfl
        | false =>
          refine iteT ⟨_, rfl, rfl, _, rfl, ?_⟩
          cases b with
          | none => exact iteF ⟨by rw [es]; exact g, some (.int i), by rw [es]; rfl⟩
          | some b =>
            refine iteT ⟨_, rfl, .inl ⟨rfl, _, SqL.of hac⟩, _, rfl, _, rfl, (by show 2 ≤ sizeLine; decide), fun M hM => ?_⟩
            have gT := g.grow (Same.new (o := .tup [.int b, .int i]) hM)
            have hacT : (upd H' M (.tup [.int b, .int i])) L = some (.lst acc') := by rw [upd_ne (ne_of_none hac hM)]; exact hac
            refine ⟨L, acc', _, rfl, rfl, hacT, small1000 (by simp only at hal hlen; omega), ?_⟩
            refine ⟨?_, some (.int i), by rw [es]; rfl⟩
            rw [es]
            show Lg H L _ (List.map rowD (acc ++ [(b, some (i : Int))]))
            rw [List.map_append]
            exact gT.push hacT (Dv.mkRow (o := some (i : Int)) upd_same) (noList_row _)
    · obtain ⟨g, j, rfl⟩ := q
      obtain ⟨acc', hac, hdv⟩ := g.2
      have hal := g.len hac
      rw [List.length_map] at hal
      have hlen := rowFold_len T (n + 1)
      have er : rowsOf T = match (rowFold T (n + 1)).2 with
        | none => (rowFold T (n + 1)).1
        | some b => (rowFold T (n + 1)).1 ++ [(b, none)] := by unfold rowsOf; rw [hl]
      generalize hpp : rowFold T (n + 1) = pp at g er hlen hal
      obtain ⟨acc, b⟩ := pp
      refine ⟨fun σ' H' => σ' = [some (.ref a), some (.int n), some (.ref L), some (optV b), j] ∧ Lg H L H' ((rowsOf T).map rowD), ?_, ?_⟩
      · refine ⟨_, rfl, rfl, _, rfl, ?_⟩
        cases b with
        | none =>
          refine iteF ⟨rfl, ?_⟩
          rw [er]
          exact g
        | some b =>
          refine iteT ⟨_, rfl, .inl ⟨rfl, _, SqL.of hac⟩, _, rfl, (by show 2 ≤ sizeLine; decide), fun M hM => ?_⟩
          have gT := g.grow (Same.new (o := .tup [.int b, .non]) hM)
          have hacT : (upd H2 M (.tup [.int b, .non])) L = some (.lst acc') := by rw [upd_ne (ne_of_none hac hM)]; exact hac
          refine ⟨L, acc', _, rfl, rfl, hacT, small1000 (by simp only at hal hlen; omega), rfl, ?_⟩
          rw [er]
          show Lg H L _ (List.map rowD (acc ++ [(b, none)]))
          rw [List.map_append]
          exact gT.push hacT (Dv.mkRow (o := none) upd_same) (noList_row _)
      · rintro σ' H' ⟨rfl, g2⟩
        obtain ⟨acc2, hac2, _⟩ := g2.2
        refine ⟨_, rfl, L, acc2, rfl, .inl ⟨SqL.of hac2, fun q hq => ?_⟩⟩
        exact k q _ (g2.same.trans (Same.new hq)) (g2.same.free hq) (g2.fin hac2 hq)
end
end K7
end

section
set_option Elab.async false
set_option linter.all false
set_option maxRecDepth 100000
set_option maxHeartbeats 4000000
/-! The law's drawn stretches. -/
namespace K7
open PySem L2
def gap (r s : Row) : Prop := ∃ x, r.2 = some x ∧ x < s.1
structure Canon (rs : List Row) : Prop where
  pos : ∀ r ∈ rs, 0 ≤ r.1 ∧ ∀ e, r.2 = some e → r.1 < e
  gaps : rs.Pairwise gap
def Bd (n : Int) (rs : List Row) : Prop := ∀ r ∈ rs, r.1 ≤ n ∧ ∀ e, r.2 = some e → e ≤ n
/-- the lists at ms hold the rows rs -/
def RowsAt (H : Hp) : List Addr → List Row → Prop
  | [], [] => True
  | m :: ms, r :: rs => H m = some (.lst [.int r.1, optV r.2]) ∧ RowsAt H ms rs
  | _, _ => False
theorem RowsAt.same {H H' : Hp} (S : Same H H') : ∀ {ms : List Addr} {rs : List Row}, RowsAt H ms rs → RowsAt H' ms rs
  | [], [], _ => True.intro
  | _ :: _, _ :: _, h => ⟨S _ _ h.1, RowsAt.same S h.2⟩
  | [], _ :: _, h => h.elim
  | _ :: _, [], h => h.elim
theorem RowsAt.snoc {H : Hp} {m : Addr} {r : Row} (a : H m = some (.lst [.int r.1, optV r.2])) : ∀ {ms : List Addr} {rs : List Row}, RowsAt H ms rs → RowsAt H (ms ++ [m]) (rs ++ [r])
  | [], [], _ => ⟨a, True.intro⟩
  | _ :: _, _ :: _, h => ⟨h.1, RowsAt.snoc a h.2⟩
  | [], _ :: _, h => h.elim
  | _ :: _, [], h => h.elim
theorem RowsAt.unsnoc {H : Hp} {m : Addr} {r : Row} : ∀ {ms : List Addr} {rs : List Row}, RowsAt H (ms ++ [m]) (rs ++ [r]) → RowsAt H ms rs ∧ H m = some (.lst [.int r.1, optV r.2])
  | [], [], h => ⟨True.intro, h.1⟩
  | _ :: _, _ :: _, h => ⟨⟨h.1, (RowsAt.unsnoc h.2).1⟩, (RowsAt.unsnoc h.2).2⟩
  | [], [_], h => h.2.elim
  | [], _ :: _ :: _, h => h.2.elim
  | [_], [], h => h.2.elim
  | _ :: _ :: _, [], h => h.2.elim
theorem RowsAt.length {H : Hp} : ∀ {ms : List Addr} {rs : List Row}, RowsAt H ms rs → ms.length = rs.length
  | [], [], _ => rfl
  | _ :: _, _ :: _, h => congrArg (· + 1) (RowsAt.length h.2)
  | [], _ :: _, h => h.elim
  | _ :: _, [], h => h.elim
theorem RowsAt.mem {H : Hp} : ∀ {ms : List Addr} {rs : List Row} {m : Addr}, RowsAt H ms rs → m ∈ ms → ∃ o, H m = some o
  | _ :: _, _ :: _, m, h, hm => by
    rcases List.mem_cons.mp hm with e | hm
    · rw [e]; exact ⟨_, h.1⟩
    · exact RowsAt.mem h.2 hm
  | [], _, _, _, hm => by simp at hm
  | _ :: _, [], _, h, _ => h.elim
theorem RowsAt.upd {H : Hp} {x : Addr} {o : HO} : ∀ {ms : List Addr} {rs : List Row}, RowsAt H ms rs → x ∉ ms → RowsAt (upd H x o) ms rs
  | [], [], _, _ => True.intro
  | m :: _, _ :: _, h, hx => by
    rw [List.mem_cons, not_or] at hx
    exact ⟨by rw [upd_ne (Ne.symm hx.1)]; exact h.1, RowsAt.upd h.2 hx.2⟩
  | [], _ :: _, h, _ => h.elim
  | _ :: _, [], h, _ => h.elim
theorem RowsAt.get {H : Hp} : ∀ {ms : List Addr} {rs : List Row} {i : Nat} {m : Addr}, RowsAt H ms rs → ms[i]? = some m → ∃ r, rs[i]? = some r ∧ H m = some (.lst [.int r.1, optV r.2])
  | _ :: _, r :: _, 0, m, h, e => by
    have e' := Option.some.inj e
    subst e'
    exact ⟨r, rfl, h.1⟩
  | _ :: _, _ :: _, i + 1, m, h, e => RowsAt.get (i := i) h.2 (by simpa using e)
  | [], _, _, _, _, e => by simp at e
  | _ :: _, [], _, _, h, _ => h.elim
def rowL (r : Row) : PyData := .list [.int r.1, optD r.2]
theorem RowsAt.dv {H : Hp} : ∀ {ms : List Addr} {rs : List Row}, RowsAt H ms rs → DvAll H (ms.map V.ref) (rs.map rowL)
  | [], [], _ => .nil
  | _ :: _, r :: _, h => .cons (.lst h.1 (.cons (.int _) (.cons (.opt r.2) .nil))) (RowsAt.dv h.2)
  | [], _ :: _, h => h.elim
  | _ :: _, [], h => h.elim
theorem rowsL_lay : ∀ rs : List Row, PyData.canLayAll0 (rs.map rowL) = true
  | [] => rfl
  | (b, none) :: rs => by rw [List.map_cons, PyData.canLayAll0, rowsL_lay rs]; simp [rowL, optD, PyData.canLay0, PyData.canLayAll0]
  | (b, some e) :: rs => by rw [List.map_cons, PyData.canLayAll0, rowsL_lay rs]; simp [rowL, optD, PyData.canLay0, PyData.canLayAll0]
theorem rowsL_dep : ∀ rs : List Row, PyData.depthAll (rs.map rowL) ≤ 1
  | [] => by simp [PyData.depthAll]
  | (b, none) :: rs => by
    have := rowsL_dep rs
    simp only [List.map_cons, PyData.depthAll, rowL, optD, PyData.depth]
    omega
  | (b, some e) :: rs => by
    have := rowsL_dep rs
    simp only [List.map_cons, PyData.depthAll, rowL, optD, PyData.depth]
    omega
theorem shaped_lstL (rs : List Row) : SeqAt.shaped (.list (rs.map rowL)) = true := by
  have := rowsL_dep rs
  simp [SeqAt.shaped, PyData.canLay0, rowsL_lay, PyData.depth]
  omega
/-- the rows drawn up to the tick t -/
structure Drawn (rs : List Row) (t : Int) : Prop where
  each : ∀ r ∈ rs, 0 ≤ r.1 ∧ ∃ e, r.2 = some e ∧ r.1 < e ∧ e < t
  gaps : rs.Pairwise gap
  pos : 0 ≤ t
theorem Drawn.next {rs : List Row} {t e t' : Int} (d : Drawn rs t) (h1 : t < e) (h2 : e < t') : Drawn (rs ++ [(t, some e)]) t' where
  each := fun r hr => by
    rcases List.mem_append.mp hr with hr | hr
    · obtain ⟨a, x, b, c, f⟩ := d.each r hr
      exact ⟨a, x, b, c, by omega⟩
    · rw [List.mem_singleton.mp hr]
      exact ⟨d.pos, e, rfl, h1, h2⟩
  gaps := by
    rw [List.pairwise_append]
    refine ⟨d.gaps, List.pairwise_singleton _ _, fun a ha b hb => ?_⟩
    rw [List.mem_singleton.mp hb]
    obtain ⟨_, x, e1, _, e3⟩ := d.each a ha
    exact ⟨x, e1, e3⟩
  pos := by have := d.pos; omega
theorem Drawn.canon {rs : List Row} {t : Int} (d : Drawn rs t) (ht : t ≤ 90) : Canon rs ∧ Bd 90 rs := by
  refine ⟨⟨fun r hr => ?_, d.gaps⟩, fun r hr => ?_⟩
  · obtain ⟨a, x, b, c, f⟩ := d.each r hr
    refine ⟨a, fun e he => ?_⟩
    rw [b] at he
    cases he
    exact c
  · obtain ⟨a, x, b, c, f⟩ := d.each r hr
    refine ⟨by omega, fun e he => ?_⟩
    rw [b] at he
    cases he
    omega
theorem Drawn.open {rs : List Row} {r : Row} {t : Int} (d : Drawn (rs ++ [r]) t) (ht : t ≤ 90) : Canon (rs ++ [(r.1, none)]) ∧ Bd 90 (rs ++ [(r.1, none)]) := by
  obtain ⟨⟨c1, c2⟩, b⟩ := d.canon ht
  rw [List.pairwise_append] at c2
  refine ⟨⟨fun s hs => ?_, ?_⟩, fun s hs => ?_⟩
  · rcases List.mem_append.mp hs with hs | hs
    · exact c1 s (List.mem_append_left _ hs)
    · rw [List.mem_singleton.mp hs]
      exact ⟨(c1 r (by simp)).1, fun e he => by cases he⟩
  · rw [List.pairwise_append]
    refine ⟨c2.1, List.pairwise_singleton _ _, fun a ha s hs => ?_⟩
    rw [List.mem_singleton.mp hs]
    exact c2.2.2 a ha r (by simp)
  · rcases List.mem_append.mp hs with hs | hs
    · exact b s (List.mem_append_left _ hs)
    · rw [List.mem_singleton.mp hs]
      exact ⟨(b r (by simp)).1, fun e he => by cases he⟩
section
variable {P : Program} {w : World} {K : PySem.W.Frag} {mg : Str → Option Value} {base : Heap}
def spStretch : Sp := fun vs H Q _ => ∃ p, vs = [.ref p] ∧ Bx p H ∧ ∀ rs q H', Canon rs → Bd 90 rs → rs.length ≤ 4 → Bx p H' → Same (off p H) (off p H') → Dv (off p H') (.ref q) (.list (rs.map rowD)) → Q (.ref q) H'
abbrev nStr : List Str := ["_law_box_here", "_law_rows", "_law_tick", "_law_turn", "_law_end", "_law_row"]
theorem ndStr : nStr.Nodup := by decide +kernel
theorem scStretch : FnScope nStr ["_law_box_here"] (defScope sStr) := ⟨rfl, rfl, rfl, by decide +kernel, rfl, by decide +kernel, by decide +kernel⟩
/-- what stands of the heap while the rows are drawn: the box at p, the rows' list at R -/
structure StrAt (p R : Addr) (H0 H : Hp) (ms : List Addr) (rs : List Row) : Prop where
  box : Bx p H
  ne : R ≠ p
  same : Same (off p H0) (off R (off p H))
  lst : H R = some (.lst (ms.map V.ref))
  rows : RowsAt (off R (off p H)) ms rs
  nd : ms.Nodup
  old : ∀ m ∈ ms, H0 m = none
theorem off_comm {p R : Addr} {H : Hp} : off R (off p H) = off p (off R H) := by
  funext b
  unfold off
  by_cases h1 : b = R <;> by_cases h2 : b = p <;> simp [h1, h2]
theorem StrAt.box' {p R : Addr} {H0 H : Hp} {ms : List Addr} {rs : List Row} (s : StrAt p R H0 H ms rs) (a b c : Int) : StrAt p R H0 (upd H p (.lst [.int a, .int b, .int c])) ms rs :=
  ⟨⟨a, b, c, upd_same⟩, s.ne, by rw [off_upd]; exact s.same, by rw [upd_ne s.ne]; exact s.lst, by rw [off_upd]; exact s.rows, s.nd, s.old⟩
theorem StrAt.new {p R T : Addr} {H0 H : Hp} {ms : List Addr} {rs : List Row} {o : HO} (s : StrAt p R H0 H ms rs) (hT : H T = none) : StrAt p R H0 (upd H T o) ms rs := by
  obtain ⟨a, b, c, hp⟩ := s.box
  have n1 : T ≠ p := (ne_of_none hp hT).symm
  have n2 : T ≠ R := (ne_of_none s.lst hT).symm
  have S : Same (off R (off p H)) (off R (off p (upd H T o))) := off_mono (off_mono (Same.new hT))
  exact ⟨⟨a, b, c, by rw [upd_ne (Ne.symm n1)]; exact hp⟩, s.ne, s.same.trans S, by rw [upd_ne (Ne.symm n2)]; exact s.lst, s.rows.same S, s.nd, s.old⟩
theorem StrAt.push {p R m : Addr} {H0 H : Hp} {ms : List Addr} {rs : List Row} {r : Row} (s : StrAt p R H0 H ms rs) (hm : H m = some (.lst [.int r.1, optV r.2])) (n1 : m ≠ p) (n2 : m ≠ R) (n3 : m ∉ ms) (n4 : H0 m = none) : StrAt p R H0 (upd H R (.lst (ms.map V.ref ++ [V.ref m]))) (ms ++ [m]) (rs ++ [r]) := by
  obtain ⟨a, b, c, hp⟩ := s.box
  have e : off R (off p (upd H R (.lst (ms.map V.ref ++ [V.ref m])))) = off R (off p H) := by rw [off_comm, off_upd, off_comm]
  refine ⟨⟨a, b, c, by rw [upd_ne (Ne.symm s.ne)]; exact hp⟩, s.ne, by rw [e]; exact s.same, by rw [upd_same, List.map_append]; rfl, ?_, ?_, fun x hx => ?_⟩
  · rw [e]
    exact s.rows.snoc (by rw [off_ne n2, off_ne n1]; exact hm)
  · rw [List.nodup_append]
    exact ⟨s.nd, (by simp), fun a ha b hb => by rw [List.mem_singleton.mp hb]; exact fun e => n3 (e ▸ ha)⟩
  · rcases List.mem_append.mp hx with hx | hx
    · exact s.old x hx
    · rw [List.mem_singleton.mp hx]
      exact n4
theorem StrAt.fresh {p R M : Addr} {H0 H : Hp} {ms : List Addr} {rs : List Row} (s : StrAt p R H0 H ms rs) (hM : H M = none) : H0 M = none := by
  cases e : H0 M with
  | none => rfl
  | some o =>
    obtain ⟨a, b, c, hp⟩ := s.box
    have n : M ≠ p := fun z => by rw [z, hp] at hM; cases hM
    have h1 := s.same M o (by rw [off_ne n]; exact e)
    have h2 := off_le _ _ (off_le _ _ h1)
    rw [hM] at h2
    cases h2
theorem pick3 {a b c : Int} {i : Nat} {v : V} (h : [V.int a, .int b, .int c][i]? = some v) : ∃ m, v = .int m ∧ (m = a ∨ m = b ∨ m = c) := by
  match i, h with
  | 0, h => exact ⟨a, (Option.some.inj h).symm, .inl rfl⟩
  | 1, h => exact ⟨b, (Option.some.inj h).symm, .inr (.inl rfl)⟩
  | 2, h => exact ⟨c, (Option.some.inj h).symm, .inr (.inr rfl)⟩
  | i + 3, h => simp at h
theorem ok_stretches {f : Addr} {fd : FuncData} (F : FnP K "_law_stretches" sStr [] f fd) (cT : Fn7 P w K mg base CX0 1 "_law_take" spTake []) (cP : Fn7 P w K mg base CX0 2 "_law_pick" spPick []) (B : Blt mg) : FnOk P w K mg base CX0 3 f fd ["_law_box_here"] spStretch := by
  refine F.ok scStretch (fun vs H Q E h => ?_) (fun cdv A outer s H vs Q E hr h => ?_)
  · obtain ⟨p, rfl, _⟩ := h
    rfl
  · obtain ⟨p, rfl, hb, k⟩ := h
    refine ⟨_, pss_cons (ps_par (i := 1) (j := 2) rfl ndStr rfl rfl (by decide) rfl rfl (pa_cons (pe_lst pa_nil) (pa_cons (pe_f cT hr (by decide) (by rfl) (pa_cons (pv 0) (pa_cons pe_int pa_nil))) pa_nil)) rfl)
      (pss_cons (ps_for (passes_of rfl) rfl (pi_range1 (by rfl) B.range (pa_cons (pe_f cT hr (by decide) (by rfl) (pa_cons (pv 0) (pa_cons pe_int pa_nil))) pa_nil)) (pg_name (i := 3) ndStr rfl (Or.inl rfl))
        (pss_cons (ps_set (i := 4) ndStr rfl (Or.inl rfl) (pe_op op_add (pe_op op_add (pv 2) pe_int) (pe_f cT hr (by decide) (by rfl) (pa_cons (pv 0) (pa_cons (pe_f cP hr (by decide) (by rfl) (pa_cons (pv 0) (pa_cons (pe_lst (pa_cons pe_int (pa_cons pe_int (pa_cons pe_int pa_nil)))) pa_nil))) pa_nil)))))
        (pss_cons (ps_expr (pe_bm PySem.F.plainAttrs_list PySem.F.slot_list_append PySem.F.type_list_append mt_append (pv 1) (pa_cons (pe_lst (pa_cons (pv 2) (pa_cons (pv 4) pa_nil))) pa_nil)))
        (pss_one (ps_set (i := 2) ndStr rfl (Or.inl rfl) (pe_op op_add (pe_op op_add (pv 4) pe_int) (pe_f cT hr (by decide) (by rfl) (pa_cons (pv 0) (pa_cons (pe_f cP hr (by decide) (by rfl) (pa_cons (pv 0) (pa_cons (pe_lst (pa_cons pe_int (pa_cons pe_int (pa_cons pe_int pa_nil)))) pa_nil))) pa_nil)))))))))
      (C8.pss_cut (ps_if (pw_and (pt_cmpR (op_neD hr.units) (pv 1) (pe_lst pa_nil) (nomark _)) (pw_and1 (pt_cmpR op_eq (pe_f cT hr (by decide) (by rfl) (pa_cons (pv 0) (pa_cons pe_int pa_nil))) pe_int (nomark _)))).pt
          (pss_one (ps_asg pe_non (pg_sub (pe_ix ix_list (pv 1) (pe_un un_neg pe_int) (fun _ _ => rfl)) pe_int set_list))) pss_nil)
      (pss_one (ps_ret (pe_lc (te := tCB (rTupL K) (tCons (tVar 5) tNil)) (own := [("_law_row", 5)]) (g := gName 5) rfl ndStr (pi_seqS (pv 1)) (blkOk_by (own := [("_law_row", 5)]) (N := nStr) (sc := defScope sStr) (by decide +kernel))
          (fun _ _ _ _ _ => pg_name (i := 5) ndStr rfl (Or.inl rfl)) (fun _ _ _ _ _ => pts_nil)
          (fun _ _ _ _ _ => pe_callTy cr_tupL (by rfl) B.tuple boot_tuple (pa_cons (pv 5) pa_nil))))))), ?_⟩
    refine ⟨Nat.zero_le _, fun R hR => ?_⟩
    obtain ⟨a0, b0, c0, hp0⟩ := id hb
    have nRp : R ≠ p := (ne_of_none hp0 hR).symm
    have st0 : StrAt p R H (upd H R (.lst [])) [] [] := by
      refine ⟨⟨a0, b0, c0, by rw [upd_ne (Ne.symm nRp)]; exact hp0⟩, nRp, ?_, upd_same, True.intro, List.Pairwise.nil, fun m hm => by simp at hm⟩
      rw [off_comm, off_upd, ← off_comm, off_none (H := off p H) (by rw [off_ne nRp]; exact hR)]
      exact Same.refl _
    refine ⟨_, rfl, p, 6, rfl, st0.box, by decide, by decide, fun d a b c h1 h2 => ⟨_, _, rfl, ?_⟩⟩
    have st1 := st0.box' a b c
    refine ⟨_, rfl, p, 5, rfl, st1.box, by decide, by decide, fun n a b c hn1 hn2 => ⟨n, rfl, by omega, by omega, ?_⟩⟩
    have st2 := st1.box' a b c
    have hnn : n.toNat ≤ 4 := by omega
    refine for_by n.toNat (fun i σ H2 => ∃ ms rs t j3 j4, StrAt p R H H2 ms rs ∧ Drawn rs t ∧ t ≤ 5 + 17 * (i : Int) ∧ rs.length = i ∧ σ = [some (.ref p), some (.ref R), some (.int t), j3, j4, none])
      ⟨[], [], d, none, none, st2, ⟨fun r hr => by simp at hr, List.Pairwise.nil, h1⟩, by omega, rfl, rfl⟩
      (fun i σ H2 hi q => hi) (fun σ H2 q => Nat.le_refl _) (fun i σ H2 y H3 hi q yl => ?_) (fun σ H2 q => ?_)
    · obtain ⟨ms, rs, t, j3, j4, st, dr, ht, hrl, rfl⟩ := q
      obtain ⟨rfl, rfl⟩ := yl
      refine ⟨_, rfl, t, 1, rfl, rfl, _, rfl, _, rfl, (by show 3 ≤ sizeLine; decide), fun l1 hl1 => ?_⟩
      have s1 := st.new (o := .lst [.int 1, .int 4, .int 9]) hl1
      obtain ⟨ba, bb, bc, hpx⟩ := st.box
      refine ⟨p, l1, _, rfl, s1.box, upd_same, (ne_of_none hpx hl1).symm, (by simp), (by simp), fun i1 v1 a1 b1 c1 hv1 => ?_⟩
      obtain ⟨m1, rfl, hm1⟩ := pick3 hv1
      have s2 := s1.box' a1 b1 c1
      refine ⟨p, m1, rfl, s2.box, by omega, by omega, fun d1 a2 b2 c2 hd1 hd2 => ⟨_, d1, rfl, rfl, ?_⟩⟩
      have s3 := s2.box' a2 b2 c2
      refine ⟨_, rfl, .inl ⟨rfl, _, SqL.of s3.lst⟩, _, rfl, _, rfl, (by show 2 ≤ sizeLine; decide), fun M hM => ?_⟩
      have s4 := s3.new (o := .lst [.int t, .int (t + 1 + d1)]) hM
      have nM : M ∉ ms := fun hm => by
        obtain ⟨o, ho⟩ := s3.rows.mem hm
        have := off_le _ _ (off_le _ _ ho)
        rw [hM] at this
        cases this
      obtain ⟨xa, xb, xc, hpy⟩ := s3.box
      have s5 := s4.push (r := (t, some (t + 1 + d1))) upd_same (ne_of_none hpy hM).symm (ne_of_none s3.lst hM).symm nM (s3.fresh hM)
      have hlen : (ms.map V.ref).length < sizeLine := by
        rw [List.length_map, st.rows.length, hrl]
        exact small1000 (by omega)
      refine ⟨R, ms.map V.ref, _, rfl, rfl, s4.lst, hlen, ?_⟩
      refine ⟨_, rfl, _, 1, rfl, rfl, _, rfl, _, rfl, (by show 3 ≤ sizeLine; decide), fun l2 hl2 => ?_⟩
      have s6 := s5.new (o := .lst [.int 1, .int 3, .int 8]) hl2
      obtain ⟨ya, yb, yc, hpz⟩ := s5.box
      refine ⟨p, l2, _, rfl, s6.box, upd_same, (ne_of_none hpz hl2).symm, (by simp), (by simp), fun i2 v2 a3 b3 c3 hv2 => ?_⟩
      obtain ⟨m2, rfl, hm2⟩ := pick3 hv2
      have s7 := s6.box' a3 b3 c3
      refine ⟨p, m2, rfl, s7.box, by omega, by omega, fun d2 a4 b4 c4 hd3 hd4 => ⟨_, d2, rfl, rfl, ?_⟩⟩
      have s8 := s7.box' a4 b4 c4
      refine ⟨_, _, t + 1 + d1 + 1 + d2, _, _, s8, dr.next (e := t + 1 + d1) (by omega) (by omega), by omega, by rw [List.length_append, hrl]; rfl, rfl⟩
    · obtain ⟨ms, rs, t, j3, j4, st, dr, ht, hrl, rfl⟩ := q
      have ht90 : t ≤ 90 := by omega
      refine ⟨fun σ' H' => ∃ rs', σ' = [some (.ref p), some (.ref R), some (.int t), j3, j4, none] ∧ Canon rs' ∧ Bd 90 rs' ∧ rs'.length ≤ 4 ∧ ∃ ms', StrAt p R H H' ms' rs', ?_, ?_⟩
      · refine ⟨_, rfl, Nat.zero_le _, fun M hM => ?_⟩
        have s1 := st.new (o := .lst []) hM
        refine ⟨.list (rs.map rowL), .list [], (Dv.lst s1.lst (s1.rows.dv.ext (Sub.of (off_le.trans off_le)))).dp, (Dv.lst upd_same .nil).dp, shaped_lstL _, shaped_nil, _, rfl, ?_⟩
        rw [eqv_nil]
        have keep : ∀ {H'}, StrAt p R H H' ms rs → ∃ rs', [some (V.ref p), some (.ref R), some (.int t), j3, j4, none] = [some (V.ref p), some (.ref R), some (.int t), j3, j4, none] ∧ Canon rs' ∧ Bd 90 rs' ∧ rs'.length ≤ 4 ∧ ∃ ms', StrAt p R H H' ms' rs' := fun s =>
          ⟨rs, rfl, (dr.canon ht90).1, (dr.canon ht90).2, by omega, ms, s⟩
        rcases List.eq_nil_or_concat rs with e | ⟨init, r, e⟩
        · subst e
          exact iteF (iteF (keep s1))
        · rw [List.concat_eq_append] at e
          have hne : (!(rs.map rowL).isEmpty) = true := by rw [e]; simp
          rw [hne]
          refine iteT ⟨_, rfl, p, 2, rfl, s1.box, by decide, by decide, fun d a b c hd1 hd2 => ⟨rfl, _, rfl, ?_⟩⟩
          have s2 := s1.box' a b c
          rw [vint_eq]
          refine ite2 (fun z => ?_) (fun z => keep s2)
          have hml := st.rows.length
          rcases List.eq_nil_or_concat ms with em | ⟨mi, m, em⟩
          · rw [em, e] at hml
            simp at hml
          · rw [List.concat_eq_append] at em
            subst e
            subst em
            obtain ⟨q1, q2⟩ := s2.rows.unsnoc
            have nm1 : m ∉ mi := fun hm => by
              have := s2.nd
              rw [List.nodup_append] at this
              exact this.2.2 m hm m (by simp) rfl
            have hm0 : (upd (upd H2 M (.lst [])) p (.lst [.int a, .int b, .int c])) m = some (.lst [.int r.1, optV r.2]) := off_le _ _ (off_le _ _ q2)
            have nmR : m ≠ R := fun e => by rw [e, off_at] at q2; cases q2
            have nmp : m ≠ p := fun e => by rw [e, off_ne (Ne.symm nRp), off_at] at q2; cases q2
            refine ⟨_, rfl, _, rfl, R, _, -1, .ref m, rfl, rfl, SqL.of s2.lst, by rw [List.map_append]; exact atI_last _ _, m, [.int r.1, optV r.2], 1, 1, rfl, rfl, hm0, rfl, ?_⟩
            refine ⟨init ++ [(r.1, none)], rfl, (dr.open ht90).1, (dr.open ht90).2, by simp at hrl ⊢; omega, mi ++ [m], ?_⟩
            obtain ⟨za, zb, zc, hpz⟩ := s2.box
            have eo : off R (off p (upd (upd (upd H2 M (.lst [])) p (.lst [.int a, .int b, .int c])) m (.lst [.int r.1, .non]))) = upd (off R (off p (upd (upd H2 M (.lst [])) p (.lst [.int a, .int b, .int c])))) m (.lst [.int r.1, .non]) := by
              rw [off_updne nmp, off_updne nmR]
            refine ⟨⟨za, zb, zc, by rw [upd_ne (Ne.symm nmp)]; exact hpz⟩, nRp, ?_, by rw [upd_ne (Ne.symm nmR)]; exact s2.lst, ?_, s2.nd, s2.old⟩
            · show Same (off p H) (off R (off p (upd _ m (.lst [.int r.1, .non]))))
              rw [eo]
              intro x o hx
              have hxm : x ≠ m := fun z => by
                have h1 := off_le _ _ hx
                rw [z, s2.old m (by simp)] at h1
                cases h1
              rw [upd_ne hxm]
              exact s2.same x o hx
            · show RowsAt (off R (off p (upd _ m (.lst [.int r.1, .non])))) _ _
              rw [eo]
              exact RowsAt.snoc (r := (r.1, none)) upd_same (q1.upd nm1)
      · rintro σ' H' ⟨rs', rfl, hc, hbd, hl4, ms', s9⟩
        have hml := s9.rows.length
        refine ⟨_, rfl, R, ms'.map V.ref, rfl, .inl s9.lst, fun J wk D hD => ?_⟩
        have hsR : Sq H' R (ms'.map V.ref) := .inl s9.lst
        obtain ⟨za, zb, zc, hpz⟩ := s9.box
        refine lc_dv (ms'.map V.ref).length (fun i => (rs'.take i).map rowD) hD rfl (fun i hi => small1000 (by rw [List.length_map, List.length_take]; omega)) (fun i H3 hi S3 => wk.go i H3 (hsR.eq (Same.refl _) S3) hi) (fun H3 S3 => wk.stop H3 (hsR.eq (Same.refl _) S3)) (fun i H3 y H4 acc N hi S3 ha yl hN hS => ?_) (fun H3 zs S3 hD3 hz => ?_)
        · obtain ⟨rfl, hy⟩ := wk.yld i H3 _ _ (hsR.eq (Same.refl _) S3) yl
          rw [List.getElem?_map] at hy
          obtain ⟨m, hm, rfl⟩ : ∃ m, ms'[i]? = some m ∧ V.ref m = y := by
            cases e : ms'[i]? with
            | none => rw [e] at hy; cases hy
            | some m => rw [e] at hy; exact ⟨m, rfl, Option.some.inj hy⟩
          obtain ⟨r, hr1, hr2⟩ := s9.rows.get hm
          have hr3 := S3 _ _ (off_le _ _ (off_le _ _ hr2))
          refine ⟨rfl, ?_⟩
          unfold tYes
          refine iteT ⟨_, rfl, m, _, rfl, .inl ⟨SqL.of hr3, fun T hT => ?_⟩⟩
          refine hN _ _ (rowD r) (Same.new hT) (Dv.off (zs := acc) (by rw [upd_ne (ne_of_none ha hT)]; exact ha) (Dv.mkRow upd_same) (noList_row _)) ?_
          show List.map _ (List.take (i + 1) rs') = _
          rw [List.take_add_one, hr1, List.map_append]
          rfl
        · have e3 : rs'.take (ms'.map V.ref).length = rs' := by rw [List.length_map, hml, List.take_length]
          have hz1 : DvAll (off D H3) zs ((rs'.take (ms'.map V.ref).length).map rowD) := hz
          rw [e3] at hz1
          have nDp : D ≠ p := (ne_of_none hpz hD).symm
          refine k rs' D H3 hc hbd hl4 ⟨za, zb, zc, S3 _ _ hpz⟩ ?_ (.lst (by rw [off_ne nDp]; exact hD3) ?_)
          · exact (s9.same.trans off_le).trans (off_mono S3)
          · exact (hz1.ext off_sub).off (S3 _ _ hpz) (noList_rows _)
end
end K7
end

section
set_option Elab.async false
set_option linter.all false
set_option maxRecDepth 100000
set_option maxHeartbeats 4000000
/-! A lambda called within a try, told's answer. -/
namespace LamV
open PySem PySem.Spec PyProof.Rows L2 LamX
section
variable {X : Cx} {pins : List (Addr × Obj)} {σ : L2.St} {H HZ : Hp} {s s1 : Shared}
theorem pe_callLamE {CXg : CXT} {Eg : XK} {Ng : List Str} {qg : Str} {sg : Scope} {g : Addr} {cdg : Value} {params : Arguments} {body : Expr} {scope : Scope} {k i : Nat} {a : Str} {pn : List (Addr × Obj)} {xe : Value → Shared → Prop} {W : WX} {tb : XK → TE} {p1 p2 : Pos} {f c' : Addr}
    (I : Inv X pins σ H s) (L : LamS X.env.scope scope)
    (hbind : ∀ (q : Str) (cl : List (Str × Addr)) (pm cv ctv : Value), bindArgs (PySem.W.kla_fn "<lambda>" q params body scope cl pm cv ctv) ⟨[], []⟩ = pure [])
    (tk : Takes ((cxOf CXg X.prog X.w X.K X.mg X.base Ng qg sg g cdg X.A X.stack s H Eg).tr pn xe) W) (hr : Room (k + 1) (X.A.deeper (envOfC qg sg s.heap.objs.size g cdg)))
    (hbody : ∀ (E : XK) (A : Around) (outer : List Env) (s : Shared) (H : Hp), Room k (A.deeper (lamEnv X scope s.heap.objs.size f c')) → PE (lamCx X A outer s H E scope f c') body (tb E))
    (hN : Ng[i]? = some a) (hv : Vis sg a) (hd : (a == ("__debug__" : Str)) = false := by decide) (hcd : (a == ("__classdict__" : Str)) = false := by decide) :
    PE ((cxOf CXg X.prog X.w X.K X.mg X.base Ng qg sg g cdg X.A X.stack s H Eg).tr pn xe) (.Call (.Name a p1) [] [] p2)
      (fun σZ HZ Q => σZ[i]? = some (some (.ref f)) ∧ HZ f = some (LamO X f c' params body scope) ∧ HZ c' = some (CodeO c' (X.env.qual ++ "<lambda>")) ∧ tb (fun cls d H' => W cls d σZ H') σ HZ Q) := by
  refine ⟨fun pinsZ sZ σZ HZ Q IZ h => ?_⟩
  obtain ⟨hs, hf, hc, ht⟩ := h
  refine wpAny_Call_Name_kw (thn ((pe_var (pos := p1) (i := i) hN hv hd hcd).run pinsZ sZ σZ HZ (fun v H1 => v = .ref f ∧ H1 = HZ) IZ ⟨.ref f, hs, rfl, rfl⟩) fun u s1 ⟨v, H1, I1, r1, q1⟩ => ?_)
  obtain ⟨rfl, rfl⟩ := q1
  obtain rfl : u = Value.ref f := r1
  obtain ⟨⟨pm, ctv, of1⟩, _, _⟩ := I1.hok f _ hf
  obtain ⟨⟨oc, vs, t, hoc, hdc, hvc⟩, _, _⟩ := I1.hok c' _ hc
  refine PySem.W.callWith_F0 ⟨_, _, _, _, of1⟩ ?_
  have un : Un (frs X.stack) [] H H1 s.heap s1.heap := I1.base
  have rc : codeAny (model X.prog X.w) (X.A.deeper (envOfC qg sg s.heap.objs.size g cdg)) (.call (.ref f) ⟨[], []⟩) (CR (L2.CX X.prog X.w) (envOfC qg sg s.heap.objs.size g cdg :: X.stack) X.prog X.w H1 s1 Q (fun cls d H' => W cls d σZ H')) s1 := by
    refine PySem.W.kla_callFunE hr.depth of1 rfl L.co L.gen rfl ⟨c', oc, vs, t, rfl, hoc, hdc, hvc⟩ ?_
    rw [hbind]
    refine wpAny_pure (wpAny_newFunctionEnv (fun y hy => (L.own y hy).2) (fun y hy => absurd hy (by simp)) (fun h₁ hns hsb => ⟨I1.nolimit.fresh _ hsb, ?_⟩) L.kind)
    show codeAny _ _ (.expr body (lamEnv X scope s1.heap.objs.size f c')) _ _
    have kp : ∀ b o, s1.heap.get? b = some o → h₁.get? b = some o := fun b o e => hsb.extBut b o (Nat.ne_of_lt (Heap.lt_size e)) (Heap.get?_push_of_some _ e)
    have J : Inv (lamCx X (X.A.deeper (envOfC qg sg s.heap.objs.size g cdg)) (envOfC qg sg s.heap.objs.size g cdg :: X.stack) s1 H1 (fun cls d H' => W cls d σZ H') scope f c') [] σ H1 { s1 with heap := h₁, toks := s1.toks + ([] : List (Str × Value)).length } :=
      lam_start2 I L I1.env0 hr.hd un hns kp
    refine PySem.W.kla_codeExpr (wpAny_mono ((hbody _ _ _ s1 H1 (hr.deeper _)).run [] _ _ H1 Q J ht) (fun v s' hq => ?_) fun e s' hq => hq)
    obtain ⟨w', H', J', rv, q⟩ := hq
    exact ⟨w', H', J'.os, J'.bare, J'.base, J'.hok, rv, q⟩
  have hx := L2.passAt tk σZ
  refine wpAny_call (codeAny_mono rc fun r s' hq => ?_)
  cases r with
  | error e => exact hx pinsZ H1 s1 e s' I1 hq
  | ok fl =>
    cases fl with
    | ret u => exact I1.after hq
    | next => exact False.elim hq
    | brk => exact False.elim hq
    | cont => exact False.elim hq
end
end LamV
namespace K7
open PySem L2 LamX LamV PySem.Spec PyProof.Rows
def tRef (PRE : L2.St → Hp → Prop) (C : Addr) (fn : Str) (v : V) (E : XK) : TE := fun σ H _ => PRE σ H ∧ ∀ H', Same H H' → Rs C fn v H' E
/-- a lambda whose call ends in the error (C, fn, v) -/
structure LamRef (X : Cx) (PRE : L2.St → Hp → Prop) (C : Addr) (fn : Str) (v : V) (params : Arguments) (body : Expr) (scope : Scope) : Prop where
  L : LamS X.env.scope scope
  bind : ∀ (q : Str) (cl : List (Str × Addr)) (pm cv ctv : Value), bindArgs (PySem.W.kla_fn "<lambda>" q params body scope cl pm cv ctv) ⟨[], []⟩ = pure []
  go : ∀ (f c' : Addr) (E : XK) (A : Around) (outer : List Env) (s : Shared) (H : Hp), Room 8 (A.deeper (lamEnv X scope s.heap.objs.size f c')) → PE (lamCx X A outer s H E scope f c') body (tRef PRE C fn v E)
abbrev nTold : List Str := ["_law_work", "e"]
theorem ndTold : nTold.Nodup := by decide +kernel
theorem scTold : FnScope nTold ["_law_work"] (defScope sTold) := ⟨rfl, rfl, rfl, by decide +kernel, rfl, by decide +kernel, by decide +kernel⟩
section
variable {X : Cx} {pins : List (Addr × Obj)} {σ : L2.St} {PRE : L2.St → Hp → Prop} {C1 C2 fI1 fI2 g : Addr} {fd : FuncData} {s0 : Shared} {H0 : Hp} {sc0 : Scope} {cenv : Env} {fp : List Addr} {e : Expr} {ta : TA} {p pos : Pos}
def tTold (X : Cx) (σ : L2.St) (PRE : L2.St → Hp → Prop) (C1 C2 : Addr) (ta : TA) : TE := fun σ' H' Q => ta σ' H' fun vs H1 => ∃ f c' params body scope C fn v kind, vs = [.ref f] ∧ H1 f = some (LamO X f c' params body scope) ∧ H1 c' = some (CodeO c' (X.env.qual ++ "<lambda>")) ∧
  LamRef X PRE C fn v params body scope ∧ ((C = C1 ∧ fn = "at" ∧ kind = ("stretches" : Str)) ∨ (C = C2 ∧ fn = "word" ∧ kind = "size")) ∧ PRE σ H1 ∧ ∀ q H2, Same H1 H2 → H2 q = some (.tup [.str kind, v]) → Q (.ref q) H2
theorem pe_told (F : FnP X.K "_law_told" sTold [] g fd) (hm : X.mg "_law_told" = some (.ref g)) (T1 : PySem.ErrX.OwnTxt X.prog X.K X.mg "InvalidStretches" sE1 "at" C1 fI1) (T2 : PySem.ErrX.OwnTxt X.prog X.K X.mg "InvalidSize" sE2 "word" C2 fI2)
    (e11 : PySem.W.exmOne X.K (.ref C1) (.ref C1) = some true) (e21 : PySem.W.exmOne X.K (.ref C2) (.ref C1) = some false) (e22 : PySem.W.exmOne X.K (.ref C2) (.ref C2) = some true) (hr : Room 10 X.A)
    (hX : ∀ pins' σ' H' s', Inv (X.blk s0 H0 sc0 cenv fp) pins' σ' H' s' → Inv X pins σ H' s') (hg : Gl (X.blk s0 H0 sc0 cenv fp) "_law_told") (ha : PA (X.blk s0 H0 sc0 cenv fp) [e] ta)
    (hst : starEach [e] (X.blk s0 H0 sc0 cenv fp).env = (false, eval e (X.blk s0 H0 sc0 cenv fp).env) :: starEach [] (X.blk s0 H0 sc0 cenv fp).env := by rfl) (hpl : (backTo pos (starEach [] (X.blk s0 H0 sc0 cenv fp).env)).any (·.1) = false := by rfl) :
    PE (X.blk s0 H0 sc0 cenv fp) (.Call (.Name "_law_told" p) [e] [] pos) (tTold X σ PRE C1 C2 ta) := by
  refine ⟨fun pins' s' σ' H' Q I' h => ?_⟩
  refine wpAny_Call_Name_kw (ld_glob I' hg hm ?_ (by decide))
  refine PySem.W.callWith_K (h₀ := X.base) I'.ok.mod.kin F.kp (thn (ha.run pos pins' s' σ' H' _ I' h) fun us s1 ⟨vs, H1, I1, r, q⟩ => ⟨I1.kIn, ?_⟩) hst hpl
  obtain ⟨f, c', params, body, scope, C, fn, v, kind, rfl, hf, hc', LR, hk, hP, q⟩ := q
  have IX := hX _ _ _ _ I1
  have bT : Binds X.K fd ["_law_work"] [] := F.bindsN fun _ _ _ _ _ _ us hl => match us, hl with | [_], _ => rfl
  obtain ⟨oc, od, dV, kV, doc, pm, an, cdv, ct, osl, rfl, lk, hcd, _, _⟩ := F.ex
  have rc : codeAny (model X.prog X.w) X.A (.call (.ref g) ⟨us, []⟩) (CR CX0 X.stack X.prog X.w H1 s1 Q E0) s1 := by
    have hul : us.length = 1 := by rw [← r.length]; rfl
    have hbt := bT s1 us I1.kIn (by simpa using hul)
    rw [List.append_nil] at hbt
    refine run_ofS (N := nTold) (ps := ["_law_work"]) (vs := [.ref f]) lk hcd scTold hr IX.env0 hbt r rfl fun hr' => ?_
    refine ⟨_, pss_one (ps_try_two (i := 1) rfl rfl ndTold rfl rfl ⟨rfl, by decide, .inl T1.gC⟩ ⟨rfl, by decide, .inl T2.gC⟩
      (fun W pn xe tk _ => pss_one (ps_ret (pe_tup (pa_cons pe_str (pa_cons (pe_callLamE (i := 0) IX LR.L LR.bind tk (hr'.mono (by decide)) (LR.go f c') rfl (Or.inl rfl)) pa_nil)))))
      (fun a oe cls d pn hz hfs => pss_one (ps_ret (pe_tup (pa_cons pe_str (pa_cons (pe_byOwn T1 hz hfs (pv 1)) pa_nil)))))
      (fun a oe cls d pn hz hfs => pss_one (ps_ret (pe_tup (pa_cons pe_str (pa_cons (pe_byOwn T2 hz hfs (pv 1)) pa_nil)))))), ?_⟩
    refine ⟨rfl, hf, hc', hP, fun H2 S2 dx hdx => ?_⟩
    have S3 := S2.trans (Same.new (o := .xd [(fn, v)]) hdx)
    rcases hk with ⟨rfl, rfl, rfl⟩ | ⟨rfl, rfl, rfl⟩
    · refine ⟨true, e11, fun _ a ha2 => ?_, (fun z => nomatch z)⟩
      refine ⟨_, rfl, rfl, rfl, dx, v, rfl, upd_same, (by show 2 ≤ sizeLine; decide), fun t ht => ?_⟩
      exact q t _ (S3.trans (Same.new ht)) upd_same
    · refine ⟨false, e21, (fun z => nomatch z), fun _ => ⟨e22, fun a ha2 => ?_⟩⟩
      refine ⟨_, rfl, rfl, rfl, dx, v, rfl, upd_same, (by show 2 ≤ sizeLine; decide), fun t ht => ?_⟩
      exact q t _ (S3.trans (Same.new ht)) upd_same
  refine wpAny_call (codeAny_mono rc fun r s2 hq => ?_)
  cases r with
  | error e => exact (show False from hq).elim
  | ok fl =>
    cases fl with
    | ret u => exact I1.after hq
    | next => exact False.elim hq
    | brk => exact False.elim hq
    | cont => exact False.elim hq
end
end K7
end

section
set_option Elab.async false
set_option linter.all false
set_option maxRecDepth 100000
set_option maxHeartbeats 4000000
/-! A comprehension none of whose turns passes its tests; the tests may look at the def's own frame. -/
namespace L2
open PySem PySem.Spec PyProof.Rows
section
variable {X : Cx}
/-- what the block's invariant says of the def's frame -/
def SeesDef (X : Cx) (pins : List (Addr × Obj)) (σ : St) (Y : Cx) : Prop := ∀ pins' σ' H' s', Inv Y pins' σ' H' s' → Inv X pins σ H' s'
def tNo (wi : TI) (g : TG) (tt : St → TT) (vs : List Nat) : TE := fun σ H Q => wi σ H fun J H1 => ∀ D, H1 D = none → ∃ (n : Nat) (Pv : Nat → Hp → Prop), Pv 0 (upd H1 D (.lst [])) ∧ (∀ H2, Pv n H2 → J.stop n H2 ∧ Q (.ref D) H2) ∧
  ∀ i H2, i < n → Pv i H2 → J.go i H2 ∧ ∀ x H3, J.yld i H2 x H3 → g x (wipe σ vs) H3 fun σ2 H4 => wipe σ2 vs = wipe σ vs ∧ tt σ σ2 H4 fun b H5 => b = false ∧ Pv (i + 1) H5
theorem pe_lcNo {elt tg iter : Expr} {ifs : List Expr} {scope : Scope} {own : List (Str × Nat)} {pos : Pos} {wi : TI} {g : TG} {tt : St → TT} (hc : X.calm = true) (hN : X.N.Nodup) (hi : PI X tg iter wi) (ok : BlkOk X.N X.env.scope scope own)
    (hg : ∀ (s : Shared) (H : Hp) (C : Addr) (cl : List (Str × Addr)) (fp : List Addr), PG (X.blk s H scope (compEnvC scope cl C X.env) fp) tg g)
    (ht : ∀ (pins : List (Addr × Obj)) (σ : St) (s : Shared) (H : Hp) (C : Addr) (cl : List (Str × Addr)) (fp : List Addr), SeesDef X pins σ (X.blk s H scope (compEnvC scope cl C X.env) fp) → PTs (X.blk s H scope (compEnvC scope cl C X.env) fp) ifs (tt σ))
    (hs : ∀ x, foldedSetIterable iter X.env x = pure x := by intro _; rfl) : PE X (.ListComp elt [⟨tg, iter, ifs, 0⟩] scope pos) (tNo wi g tt (own.map (·.2))) := by
  refine ⟨fun pins s σ H Q I h => ?_⟩
  rw [eval_ListComp]
  have clo : ∀ y ∈ scope.names, y.2 = .free → ∃ c, X.env.cells.lookup y.1 = some c := fun y hy e => I.ok.has _ (ok.free y hy e)
  refine wpAny_comprehension_free rfl hs (closure_ok clo) ok.kind (fun y hy e => by rw [ok.uniq y hy, e]) (thn (hi.run pins s σ H _ I h) fun xv s1 hx => thn hx fun itv s2 hy => ?_)
  obtain ⟨it, fp, tn, J, Hi, rfl, Ii, T, sti, fi, q⟩ := hy
  refine wpAny_newObj_type (newEnv_comp ?_) (by show 0 ≤ sizeLine; decide)
  have hDn : Hi s2.heap.objs.size = none := Ii.hok.fresh (Nat.le_refl _)
  obtain ⟨n, Pv, p0, pend, pturn⟩ := q _ hDn
  let sd : Shared := { s2 with heap := s2.heap.push { cls := .type "list", data := .seq ([] : List Value).toArray } }
  have Id : Inv X pins σ (upd Hi s2.heap.objs.size (.lst [])) sd := Ii.laid (t' := s2.toks) (fun b o e => Heap.get?_push_of_some _ e) (Nat.le_refl _) ⟨Nat.zero_le _, [], 0, .nil, Heap.get?_push_size _ rfl⟩
  have lt2 : ∀ b ∈ fp, b < s2.heap.objs.size := fun b hb => let ⟨_, e, _⟩ := T.obj _ _ sti b hb; Heap.lt_size e
  have fd : ∀ b ∈ fp, FpOk X pins (upd Hi s2.heap.objs.size (.lst [])) b ∧ b < sd.heap.objs.size := fun b hb =>
    ⟨⟨(upd_ne (Nat.ne_of_lt (lt2 b hb))).trans (fi b hb).1, (fi b hb).2⟩, by show b < (Heap.push _ _).objs.size; rw [Heap.size_push]; exact Nat.lt_succ_of_lt (lt2 b hb)⟩
  generalize hHd : upd Hi s2.heap.objs.size (.lst []) = Hd at Id fd p0
  have Ib := block_start Id ok hN fd
  have tg' := hg sd Hd sd.heap.objs.size (cellsFrom (sd.heap.objs.size + 1) scope.names (cloFrom X.env.cells scope.names [])) fp
  have ts' := ht pins σ sd Hd sd.heap.objs.size (cellsFrom (sd.heap.objs.size + 1) scope.names (cloFrom X.env.cells scope.names [])) fp
  show codeAny _ _ (.compStart (.ListComp elt [⟨tg, iter, ifs, 0⟩] scope pos) 0 (.ref it) (.ref s2.heap.objs.size) (compEnvC scope (cellsFrom (sd.heap.objs.size + 1) scope.names (cloFrom X.env.cells scope.names [])) sd.heap.objs.size X.env)) (compPost (model X.prog X.w) X.A X.xe none (EP X pins σ Q) (.ref s2.heap.objs.size) sd.heap.objs.size) { sd with heap := pushCells (sd.heap.push { cls := .type "dict", data := .dict #[] }) scope.names }
  generalize hce : compEnvC scope (cellsFrom (sd.heap.objs.size + 1) scope.names (cloFrom X.env.cells scope.names [])) sd.heap.objs.size X.env = ce at Ib tg' ts' ⊢
  have cL : ce.locals = sd.heap.objs.size := by rw [← hce]; rfl
  -- the def's frame, seen from the block
  have sees : SeesDef X pins σ (X.blk sd Hd scope ce fp) := fun pins' σ' H' s' I' => Id.call' (ch := fp) I'.os I'.base I'.hok I'.bare fun b hb => ⟨(fd b hb).1.2.2.2.1, (fd b hb).1.2.1, (fd b hb).1.2.2.2.2.1, (fd b hb).1.2.2.2.2.2⟩
  have pt' := ts' sees
  have kd : ∀ b o, sd.heap.get? b = some o → (pushCells (sd.heap.push { cls := .type "dict", data := .dict #[] }) scope.names).get? b = some o := fun b o e => pushCells_keeps _ _ _ _ (Heap.get?_push_of_some _ e)
  generalize hsb : ({ sd with heap := pushCells (sd.heap.push { cls := .type "dict", data := .dict #[] }) scope.names } : Shared) = sb at Ib ⊢
  have stb : tn 0 sb.heap := T.keep _ _ _ sti fun b _ o e => by rw [← hsb]; exact kd b o (Heap.get?_push_of_some _ e)
  have mine : ∀ {σ' : St} {H' : Hp} {s' : Shared}, Inv (X.blk sd Hd scope ce fp) [] σ' H' s' → (∀ b ∈ fp, H' b = none) → ∀ b ∈ fp, FpOk (X.blk sd Hd scope ce fp) [] H' b := fun {σ' H' s'} I' z b hb =>
    ⟨z b hb, (I'.ok.exf b hb).1, I'.ok.exfs b hb, .inl hb, fun x c e => (I'.ok.exf b hb).2 x c e, fun p hp => absurd (show p ∈ ([] : List (Addr × Obj)) ++ [] from hp) (by simp)⟩
  have walk : codeAny (model X.prog X.w) X.A (.compLoop (.ListComp elt [⟨tg, iter, ifs, 0⟩] scope pos) 0 (.ref it) (.ref s2.heap.objs.size) ce) (compPost (model X.prog X.w) X.A X.xe none (EP X pins σ Q) (.ref s2.heap.objs.size) sd.heap.objs.size) sb := by
    refine compLoop_any (fun m s' => ∃ i H', i + m = n ∧ Inv (X.blk sd Hd scope ce fp) [] (wipe σ (own.map (·.2))) H' s' ∧ tn i s'.heap ∧ (∀ b ∈ fp, H' b = none) ∧ Pv i H') ?_ n ⟨0, Hd, Nat.zero_add n, Ib, stb, fun b hb => (fd b hb).1.1, p0⟩
    rintro m s' ⟨i, H', him, I', st', n', pv⟩
    by_cases hlt : i < n
    · -- one more turn
      obtain ⟨hgo, step⟩ := pturn i H' hlt pv
      refine thnF (T.item (X.blk sd Hd scope ce fp) rfl rfl rfl hc i [] s' _ H' (fun _ _ => False) I' (mine I' n') st' hgo) fun r sA ⟨u, hr, hA⟩ => ?_
      subst hr
      refine thnF hA fun _ sB ⟨x, HB, IB, rB, yB, stB, nB⟩ => ?_
      have IP := IB.pinned (mine IB nB) (T.obj _ _ stB)
      refine thnF (tg'.run _ sB _ HB x u _ IP rB (step x HB yB)) fun _ sC ⟨σC, HC, IC, wC, qC⟩ => ?_
      refine thnF (pt'.run _ sC σC HC _ IC qC) fun b sE ⟨HE, IE, hb, pE⟩ => ?_
      subst hb
      rw [if_neg Bool.false_ne_true]
      have there : ∀ b ∈ fp, ∃ o, sB.heap.get? b = some o ∧ sE.heap.get? b = some o ∧ HE b = none := fun b hb => by
        obtain ⟨o, e, _⟩ := T.obj _ _ stB b hb
        have z := IE.pin (b, o) (List.mem_append_right _ (List.mem_append_right _ (mem_pinsAt hb e)))
        exact ⟨o, e, z.1, z.2.1⟩
      refine ⟨m - 1, by omega, i + 1, HE, by omega, (IE.unpinned (pins := [])).weak (by rw [← wC, wipe_length]) (fun j v e => ?_), T.keep _ _ _ stB fun b hb o e => ?_, fun b hb => ?_, pE⟩
      · rw [← wC] at e
        exact (wipe_some e).1
      · obtain ⟨o', e1, e2, _⟩ := there b hb
        rw [e1] at e
        rw [← Option.some.inj e]
        exact e2
      · obtain ⟨_, _, _, z⟩ := there b hb
        exact z
    · -- the end
      obtain rfl : i = n := by omega
      obtain ⟨hstop, hQ⟩ := pend H' pv
      refine thnF (T.done (X.blk sd Hd scope ce fp) rfl rfl rfl hc i [] s' _ H' (fun _ _ => False) I' (mine I' n') st' hstop) fun r sZ ⟨hr, IZ⟩ => ?_
      subst hr
      have IX := sees _ _ _ _ IZ
      have nC : H' sd.heap.objs.size = none := by
        have z : H' ce.locals = none := IZ.free
        rw [cL] at z
        exact z
      obtain ⟨mm, hn, _⟩ := IZ.loc
      have hn : sZ.heap.Ns ce.locals mm := hn
      rw [cL] at hn
      refine ⟨mm, hn, fun h'' sbut => ?_⟩
      obtain ⟨f0, f1, f2, f3, f4, f5⟩ := Id.fpOk (Nat.le_refl _) nC
      exact ⟨.ref s2.heap.objs.size, H', IX.turned (t' := sZ.toks) (fun b o hb e => (sbut.2 b hb).trans e) f0 f1 f3 f4 f5, rfl, hQ⟩
  exact codeAny_compStart_list walk (T.self X.A 0 _ _ _ stb walk)
end
end L2
end

section
set_option Elab.async false
set_option linter.all false
set_option maxRecDepth 100000
set_option maxHeartbeats 4000000
/-! The law's wrong stretches. -/
namespace K7
open PySem L2
theorem okFrom_mem : ∀ {ds : List PyData} {o : Option Int} {x : PyData}, okFrom o ds = true → x ∈ ds → ∃ l, okRow l x = true
  | d :: ds, none, _, h, _ => by cases h
  | d :: ds, some l, x, h, hx => by
    simp only [okFrom, Bool.and_eq_true] at h
    rcases List.mem_cons.mp hx with e | hx
    · rw [e]
      exact ⟨l, h.1⟩
    · exact okFrom_mem h.2 hx
theorem okFrom_tail : ∀ {ds : List PyData} {o : Option Int} {a b : PyData} {r : List PyData}, okFrom o (ds ++ a :: b :: r) = true → ∃ l, (unrow a).2 = some l ∧ okRow l b = true
  | [], none, _, _, _, h => by cases h
  | [], some l, a, b, r, h => by
    simp only [List.nil_append, okFrom, Bool.and_eq_true] at h
    cases e : (unrow a).2 with
    | none =>
      rw [e] at h
      cases h.2
    | some l2 =>
      rw [e] at h
      simp only [okFrom, Bool.and_eq_true] at h
      exact ⟨l2, rfl, h.2.1⟩
  | d :: ds, none, _, _, _, h => by cases h
  | d :: ds, some l, a, b, r, h => by
    simp only [List.cons_append, okFrom, Bool.and_eq_true] at h
    exact okFrom_tail h.2
theorem need_none_mem {ds : List PyData} {x : PyData} (hx : x ∈ ds) (h : ∀ l, okRow l x = false) : needRows (.list ds) = none := by
  unfold needRows itemsD
  cases e : okFrom (some (-1)) ds with
  | false => simp [e]
  | true =>
    obtain ⟨l, z⟩ := okFrom_mem e hx
    rw [h l] at z
    cases z
theorem need_none_tail {ds : List PyData} {a b : PyData} {r : List PyData} (h : ∀ l, (unrow a).2 = some l → okRow l b = false) : needRows (.list (ds ++ a :: b :: r)) = none := by
  unfold needRows itemsD
  cases e : okFrom (some (-1)) (ds ++ a :: b :: r) with
  | false => simp [e]
  | true =>
    obtain ⟨l, z1, z2⟩ := okFrom_tail e
    rw [h l z1] at z2
    cases z2
def badsD : List PyData := [.none, .int 7, .tuple [.int 3], .tuple [.int 2, .int 2], .tuple [.int 5, .int 4], .tuple [.int (-1), .int 2], .tuple [.bool true, .int 3], .tuple [.int 1, .bool false], .tuple [.str "a", .none]]
theorem bads_bad : ∀ x ∈ badsD, (∀ l, okRow l x = false) ∧ isLst x = false ∧ noList x = true := by
  intro x hx
  simp only [badsD, List.mem_cons, List.not_mem_nil, or_false] at hx
  rcases hx with rfl | rfl | rfl | rfl | rfl | rfl | rfl | rfl | rfl <;> refine ⟨fun l => ?_, rfl, ?_⟩ <;> simp [okRow, okEnd, noList, noListAll]
theorem sIx_some {n k : Nat} {d : Nat} (h : k ≤ n) : HT.sIx n d (some (k : Int)) = k := by
  rw [HT.sIx_nat]
  omega
theorem cutV_to {xs : List V} {k : Nat} (h : k ≤ xs.length) : cutV xs none (some (k : Int)) = xs.take k := by
  unfold cutV
  rw [sIx_some h]
  have : HT.sIx xs.length 0 none = 0 := rfl
  rw [this]
  simp
theorem cutV_from {xs : List V} {k : Nat} (h : k ≤ xs.length) : cutV xs (some (k : Int)) none = xs.drop k := by
  unfold cutV
  rw [sIx_some h]
  have : HT.sIx xs.length xs.length none = xs.length := rfl
  rw [this]
  rw [List.take_of_length_le]
  rw [List.length_drop]
  exact Nat.le_refl _
theorem off_eq {p : Addr} {H : Hp} {a b c : Int} : off p (upd H p (.lst [.int a, .int b, .int c])) = off p H := off_upd
section
variable {P : Program} {w : World} {K : PySem.W.Frag} {mg : Str → Option Value} {base : Heap}
def spWrong : Sp := fun vs H Q _ => ∃ p q, ∃ rs : List Row, vs = [.ref p, .ref q] ∧ Bx p H ∧ Dv (off p H) (.ref q) (.list (rs.map rowD)) ∧ rs.length ≤ 4 ∧ ∀ v d H', Bx p H' → Same (off p H) (off p H') → Dv (off p H') v d → needRows d = none → plainRows d → Q v H'
abbrev nWrong : List Str := ["_law_box_here", "_law_rows", "_law_bad", "_law_at", "_law_kind"]
theorem ndWrong : nWrong.Nodup := by decide +kernel
theorem scWrong : FnScope nWrong ["_law_box_here", "_law_rows"] (defScope sWrong) := ⟨rfl, rfl, rfl, by decide +kernel, rfl, by decide +kernel, by decide +kernel⟩
theorem ok_wrong {f : Addr} {fd : FuncData} (F : FnP K "_law_wrong" sWrong [] f fd) (cT : Fn7 P w K mg base CX0 1 "_law_take" spTake []) (cP : Fn7 P w K mg base CX0 2 "_law_pick" spPick []) (B : Blt mg) : FnOk P w K mg base CX0 3 f fd ["_law_box_here", "_law_rows"] spWrong := by
  refine F.ok scWrong (fun vs H Q E h => ?_) (fun cdv A outer s H vs Q E hr h => ?_)
  · obtain ⟨p, q, rs, rfl, _⟩ := h
    rfl
  · obtain ⟨p, q, rs, rfl, hb, hq, hl4, k⟩ := h
    refine ⟨_, pss_cons (ps_set (i := 2) ndWrong rfl (Or.inl rfl) (pe_f cP hr (by decide) (by rfl) (pa_cons (pv 0) (pa_cons (pe_lst (pa_cons pe_non (pa_cons pe_int (pa_cons (pe_tup (pa_cons pe_int pa_nil))
        (pa_cons (pe_tup (pa_cons pe_int (pa_cons pe_int pa_nil))) (pa_cons (pe_tup (pa_cons pe_int (pa_cons pe_int pa_nil))) (pa_cons (pe_tup (pa_cons (pe_un un_neg pe_int) (pa_cons pe_int pa_nil)))
        (pa_cons (pe_tup (pa_cons pe_bl (pa_cons pe_int pa_nil))) (pa_cons (pe_tup (pa_cons pe_int (pa_cons pe_bl pa_nil))) (pa_cons (pe_tup (pa_cons pe_str (pa_cons pe_non pa_nil))) pa_nil)))))))))) pa_nil))))
      (pss_cons (ps_set (i := 3) ndWrong rfl (Or.inl rfl) (pe_f cT hr (by decide) (by rfl) (pa_cons (pv 0) (pa_cons (pe_op op_add (pe_callB call_len_seq (by rfl) B.len boot_len (pa_cons (pv 1) pa_nil)) pe_int) pa_nil))))
      (pss_cons (ps_set (i := 4) ndWrong rfl (Or.inl rfl) (pe_f cT hr (by decide) (by rfl) (pa_cons (pv 0) (pa_cons pe_int pa_nil))))
      (pss_cons (ps_if (pt_cmpR op_eq (pv 4) pe_int (nomark _)) (pss_one (ps_ret (pe_op op_cat (pe_op op_cat (pe_slice sl_list (pv 1) po_none (po_some (pv 3))) (pe_lst (pa_cons (pv 2) pa_nil))) (pe_slice sl_list (pv 1) (po_some (pv 3)) po_none)))) pss_nil)
      (pss_cons (ps_if (pt_cmpR op_eq (pv 4) pe_int (nomark _)) (pss_one (ps_ret (pe_op op_cat (pv 1) (pe_lst (pa_cons (pe_tup (pa_cons pe_int (pa_cons pe_int pa_nil))) (pa_cons (pe_tup (pa_cons pe_int (pa_cons pe_non pa_nil))) pa_nil)))))) pss_nil)
      (pss_one (ps_ret (pe_ifExp (pt_cmpR op_eq (pv 4) pe_int (nomark _)) (pe_f cP hr (by decide) (by rfl) (pa_cons (pv 0) (pa_cons (pe_lst (pa_cons pe_non (pa_cons pe_int (pa_cons pe_str (pa_cons pe_bl pa_nil))))) pa_nil)))
        (pe_lst (pa_cons (pe_tup (pa_cons pe_int (pa_cons pe_non pa_nil))) (pa_cons (pe_tup (pa_cons pe_int (pa_cons pe_int pa_nil))) pa_nil)))))))))), ?_⟩
    obtain ⟨a0, b0, c0, hp0⟩ := id hb
    -- the bad rows
    refine ⟨_, rfl, (by show 1 ≤ sizeLine; decide), fun t1 h1 => ⟨(by show 2 ≤ sizeLine; decide), fun t2 h2 => ⟨(by show 2 ≤ sizeLine; decide), fun t3 h3 => ⟨1, rfl, (by show 2 ≤ sizeLine; decide), fun t4 h4 => ⟨(by show 2 ≤ sizeLine; decide), fun t5 h5 => ⟨(by show 2 ≤ sizeLine; decide), fun t6 h6 => ⟨(by show 2 ≤ sizeLine; decide), fun t7 h7 => ⟨(by show 9 ≤ sizeLine; decide), fun l hl => ?_⟩⟩⟩⟩⟩⟩⟩⟩
    have S1 := Same.new (o := .tup [.int 3]) h1
    have S2 := Same.new (o := .tup [.int 2, .int 2]) h2
    have S3 := Same.new (o := .tup [.int 5, .int 4]) h3
    have S4 := Same.new (o := .tup [.int (-1), .int 2]) h4
    have S5 := Same.new (o := .tup [.bl true, .int 3]) h5
    have S6 := Same.new (o := .tup [.int 1, .bl false]) h6
    have S7 := Same.new (o := .tup [.str "a", .non]) h7
    have SL : Same _ (upd _ l (.lst [.non, .int 7, .ref t1, .ref t2, .ref t3, .ref t4, .ref t5, .ref t6, .ref t7])) := Same.new hl
    have R5 := S6.trans (S7.trans SL)
    have R3 := S4.trans (S5.trans R5)
    have R1 := S2.trans (S3.trans R3)
    have R0 := S1.trans R1
    generalize hHl : upd (upd (upd (upd (upd (upd (upd (upd H t1 (HO.tup [V.int 3])) t2 (HO.tup [V.int 2, V.int 2])) t3 (HO.tup [V.int 5, V.int 4])) t4 (HO.tup [V.int (-1), V.int 2])) t5 (HO.tup [V.bl true, V.int 3])) t6 (HO.tup [V.int 1, V.bl false])) t7 (HO.tup [V.str (Str.ofString "a"), V.non])) l
      (HO.lst [V.non, V.int 7, V.ref t1, V.ref t2, V.ref t3, V.ref t4, V.ref t5, V.ref t6, V.ref t7]) = Hl at SL R5 R3 R1 R0
    have hlx : Hl l = some (.lst [.non, .int 7, .ref t1, .ref t2, .ref t3, .ref t4, .ref t5, .ref t6, .ref t7]) := by rw [← hHl]; exact upd_same
    have hall : DvAll Hl [.non, .int 7, .ref t1, .ref t2, .ref t3, .ref t4, .ref t5, .ref t6, .ref t7] badsD :=
      .cons .non (.cons (.int 7) (.cons (.tup (R1 _ _ upd_same) (.cons (.int 3) .nil)) (.cons (.tup ((S3.trans R3) _ _ upd_same) (.cons (.int 2) (.cons (.int 2) .nil))) (.cons (.tup (R3 _ _ upd_same) (.cons (.int 5) (.cons (.int 4) .nil)))
        (.cons (.tup ((S5.trans R5) _ _ upd_same) (.cons (.int (-1)) (.cons (.int 2) .nil))) (.cons (.tup (R5 _ _ upd_same) (.cons (.bl true) (.cons (.int 3) .nil))) (.cons (.tup ((S7.trans SL) _ _ upd_same) (.cons (.int 1) (.cons (.bl false) .nil)))
        (.cons (.tup (SL _ _ upd_same) (.cons (.str "a") (.cons .non .nil))) .nil))))))))
    have hpl := R0 _ _ hp0
    have nlp : l ≠ p := fun e => by rw [e, hpl] at hlx; cases hlx
    clear hHl
    refine ⟨p, l, _, rfl, ⟨a0, b0, c0, hpl⟩, hlx, nlp, (by simp), (by simp), fun i v a b c hv => ?_⟩
    obtain ⟨d, hd, dv⟩ := hall.get hv
    obtain ⟨g1, g2, g3⟩ := bads_bad d (List.mem_of_getElem? hd)
    have dvo := dv.off hpl g3
    obtain ⟨xs, hqx, hxs⟩ : ∃ xs, off p H q = some (.lst xs) ∧ DvAll (off p H) xs (rs.map rowD) := by
      cases hq with
      | lst h r => exact ⟨_, h, r⟩
    have SO : Same (off p H) (off p Hl) := off_mono R0
    have hxl := hxs.length
    rw [List.length_map] at hxl
    have nqp : q ≠ p := fun e => by rw [e, off_at] at hqx; cases hqx
    have hql : Hl q = some (.lst xs) := off_le _ _ (SO _ _ hqx)
    have hb1 : Bx p (upd Hl p (.lst [.int a, .int b, .int c])) := ⟨a, b, c, upd_same⟩
    refine ⟨_, rfl, _, rfl, q, xs, rfl, .inl (SqL.of (by rw [upd_ne nqp]; exact hql)), _, 1, rfl, rfl, p, _, rfl, hb1, by omega, by omega, fun at_ a b c at0 at1 => ?_⟩
    refine ⟨_, rfl, p, 4, rfl, ⟨a, b, c, upd_same⟩, by decide, by decide, fun kd a b c kd0 kd1 => ?_⟩
    rw [upd_upd, upd_upd]
    generalize hH3 : upd Hl p (.lst [.int a, .int b, .int c]) = H3
    have eo : off p H3 = off p Hl := by rw [← hH3]; exact off_upd
    have hp3 : H3 p = some (.lst [.int a, .int b, .int c]) := by rw [← hH3]; exact upd_same
    have hq3 : H3 q = some (.lst xs) := by rw [← hH3, upd_ne nqp]; exact hql
    have fin : ∀ Hf v d, Same H3 Hf → Dv (off p Hf) v d → needRows d = none → plainRows d → Q v Hf := fun Hf v d S h1 h2 h3 => by
      refine k v d Hf ⟨a, b, c, S _ _ hp3⟩ ?_ h1 h2 h3
      have := off_mono (p := p) S
      rw [eo] at this
      exact SO.trans this
    have hx3 : DvAll (off p H3) xs (rs.map rowD) := by rw [eo]; exact hxs.ext (Sub.of SO)
    have hv3 : Dv (off p H3) v d := by rw [eo]; exact dvo
    obtain ⟨n, rfl⟩ : ∃ n : Nat, at_ = (n : Int) := ⟨at_.toNat, by omega⟩
    have hn : n ≤ xs.length := by omega
    have notp : ∀ {G : Hp} {m : Addr}, Same H3 G → G m = none → m ≠ p := fun {G m} S h e => by
      have := S _ _ hp3
      rw [← e, h] at this
      cases this
    refine ⟨_, rfl, rfl, _, rfl, ?_⟩
    rw [vint_eq]
    refine ite2 (fun z => ?_) (fun _ => ?_)
    · refine ⟨_, rfl, _, rfl, n, rfl, q, xs, rfl, SqL.of hq3, fun m1 k1 => ?_⟩
      have Z1 := Same.new (o := .lst (cutV xs none (some (n : Int)))) k1
      refine ⟨_, rfl, (by show 1 ≤ sizeLine; decide), fun m2 k2 => ?_⟩
      have Z2 := Same.new (o := .lst [v]) k2
      have hs1 : xs.length ≤ 4 := by omega
      refine ⟨m1, m2, _, _, rfl, rfl, Z2 _ _ upd_same, upd_same, Nat.le_of_lt (small1000 ?_), fun m3 k3 => ?_⟩
      · have := cutV_length xs none (some (n : Int))
        simp only [List.length_cons, List.length_nil]
        omega
      have Z3 := Same.new (o := .lst (cutV xs none (some (n : Int)) ++ [v])) k3
      refine ⟨_, rfl, _, rfl, n, rfl, q, xs, rfl, SqL.of (Z3 _ _ (Z2 _ _ (Z1 _ _ hq3))), fun m4 k4 => ?_⟩
      have Z4 := Same.new (o := .lst (cutV xs (some (n : Int)) none)) k4
      refine ⟨m3, m4, _, _, rfl, rfl, Z4 _ _ upd_same, upd_same, Nat.le_of_lt (small1000 ?_), fun m5 k5 => ?_⟩
      · have := cutV_length xs none (some (n : Int))
        have := cutV_length xs (some (n : Int)) none
        simp only [List.length_append, List.length_cons, List.length_nil]
        omega
      have Z5 := Same.new (o := .lst (cutV xs none (some (n : Int)) ++ [v] ++ cutV xs (some (n : Int)) none)) k5
      have Z : Same H3 _ := Z1.trans (Z2.trans (Z3.trans (Z4.trans Z5)))
      have n5 : m5 ≠ p := notp (Z1.trans (Z2.trans (Z3.trans Z4))) k5
      rw [cutV_to hn, cutV_from hn] at Z Z5 ⊢
      have ZO := off_mono (p := p) Z
      refine fin _ _ (.list ((rs.map rowD).take n ++ [d] ++ (rs.map rowD).drop n)) Z (.lst (by rw [off_ne n5]; exact upd_same) ?_) (need_none_mem (x := d) (by simp) g1) ?_
      · exact (((hx3.take n).ext (Sub.of ZO)).snoc (hv3.ext (Sub.of ZO))).append ((hx3.drop n).ext (Sub.of ZO))
      · intro ds hds
        cases hds
        refine ⟨?_, fun x hx => ?_⟩
        · simp only [List.length_append, List.length_take, List.length_drop, List.length_map, List.length_cons, List.length_nil]
          omega
        · simp only [List.mem_append, List.mem_singleton] at hx
          have row : ∀ x, x ∈ rs.map rowD → isLst x = false := fun x hx => by
            obtain ⟨r, _, rfl⟩ := List.mem_map.mp hx
            rfl
          rcases hx with (hx | hx) | hx
          · exact row x (List.mem_of_mem_take hx)
          · rw [hx]; exact g2
          · exact row x (List.mem_of_mem_drop hx)
    · refine ⟨_, rfl, rfl, _, rfl, ?_⟩
      rw [vint_eq]
      refine ite2 (fun z => ?_) (fun _ => ?_)
      · refine ⟨_, rfl, (by show 2 ≤ sizeLine; decide), fun u1 k1 => ⟨(by show 2 ≤ sizeLine; decide), fun u2 k2 => ⟨(by show 2 ≤ sizeLine; decide), fun u3 k3 => ?_⟩⟩⟩
        have Z1 := Same.new (o := .tup [.int 0, .int 1]) k1
        have Z2 := Same.new (o := .tup [.int 1, .non]) k2
        have Z3 := Same.new (o := .lst [.ref u1, .ref u2]) k3
        refine ⟨q, u3, xs, _, rfl, rfl, Z3 _ _ (Z2 _ _ (Z1 _ _ hq3)), upd_same, Nat.le_of_lt (small1000 ?_), fun m k4 => ?_⟩
        · simp only [List.length_cons, List.length_nil]
          omega
        have Z4 := Same.new (o := .lst (xs ++ [.ref u1, .ref u2])) k4
        have Z : Same H3 _ := Z1.trans (Z2.trans (Z3.trans Z4))
        have n5 : m ≠ p := notp (Z1.trans (Z2.trans Z3)) k4
        have ZO := off_mono (p := p) Z
        have nu1 : u1 ≠ p := notp (Same.refl _) k1
        have nu2 : u2 ≠ p := notp Z1 k2
        refine fin _ _ (.list (rs.map rowD ++ [rowD (0, some 1), rowD (1, none)])) Z (.lst (by rw [off_ne n5]; exact upd_same) ?_) (need_none_tail fun l e => ?_) ?_
        · refine (hx3.ext (Sub.of ZO)).append (.cons (Dv.mkRow (by rw [off_ne nu1]; exact Z4 _ _ (Z3 _ _ (Z2 _ _ upd_same)))) (.cons (Dv.mkRow (by rw [off_ne nu2]; exact Z4 _ _ (Z3 _ _ upd_same))) .nil))
        · cases e
          rfl
        · intro ds hds
          cases hds
          refine ⟨?_, fun x hx => ?_⟩
          · simp only [List.length_append, List.length_map, List.length_cons, List.length_nil]
            omega
          · simp only [List.mem_append, List.mem_cons, List.not_mem_nil, or_false] at hx
            rcases hx with hx | hx | hx
            · obtain ⟨r, _, rfl⟩ := List.mem_map.mp hx
              rfl
            · rw [hx]; rfl
            · rw [hx]; rfl
      · refine ⟨_, rfl, rfl, _, rfl, ?_⟩
        rw [vint_eq]
        refine ite2 (fun z => ?_) (fun _ => ?_)
        · refine ⟨_, rfl, (by show 4 ≤ sizeLine; decide), fun u k1 => ?_⟩
          have Z1 := Same.new (o := .lst [.non, .int 5, .str "ab", .bl true]) k1
          refine ⟨p, u, _, rfl, ⟨a, b, c, Z1 _ _ hp3⟩, upd_same, notp (Same.refl _) k1, (by simp), (by simp), fun j v2 a2 b2 c2 hv2 => ?_⟩
          have scal : ∃ d2, (∀ G, Dv G v2 d2) ∧ itemsD d2 = none := by
            match j, hv2 with
            | 0, h => cases h; exact ⟨.none, fun _ => .non, rfl⟩
            | 1, h => cases h; exact ⟨.int 5, fun _ => .int 5, rfl⟩
            | 2, h => cases h; exact ⟨.str "ab", fun _ => .str "ab", rfl⟩
            | 3, h => cases h; exact ⟨.bool true, fun _ => .bl true, rfl⟩
            | j + 4, h => simp at h
          obtain ⟨d2, dv2, hi2⟩ := scal
          refine k v2 d2 _ ⟨a2, b2, c2, upd_same⟩ ?_ (dv2 _) (by unfold needRows; rw [hi2]) (fun ds e => by rw [hi2] at e; cases e)
          rw [off_upd]
          have := off_mono (p := p) Z1
          rw [eo] at this
          exact SO.trans this
        · refine ⟨(by show 2 ≤ sizeLine; decide), fun u1 k1 => ⟨(by show 2 ≤ sizeLine; decide), fun u2 k2 => ⟨(by show 2 ≤ sizeLine; decide), fun u3 k3 => ?_⟩⟩⟩
          have Z1 := Same.new (o := .tup [.int 0, .non]) k1
          have Z2 := Same.new (o := .tup [.int 9, .int 12]) k2
          have Z3 := Same.new (o := .lst [.ref u1, .ref u2]) k3
          have Z : Same H3 _ := Z1.trans (Z2.trans Z3)
          have n5 : u3 ≠ p := notp (Z1.trans Z2) k3
          have nu1 : u1 ≠ p := notp (Same.refl _) k1
          have nu2 : u2 ≠ p := notp Z1 k2
          refine fin _ _ (.list [rowD (0, none), rowD (9, some 12)]) Z (.lst (by rw [off_ne n5]; exact upd_same) ?_) rfl ?_
          · exact .cons (Dv.mkRow (by rw [off_ne nu1]; exact Z3 _ _ (Z2 _ _ upd_same))) (.cons (Dv.mkRow (by rw [off_ne nu2]; exact Z3 _ _ upd_same)) .nil)
          · intro ds hds
            cases hds
            refine ⟨by simp, fun x hx => ?_⟩
            simp only [List.mem_cons, List.not_mem_nil, or_false] at hx
            rcases hx with hx | hx <;> rw [hx] <;> rfl
end
end K7
end

section
set_option Elab.async false
set_option linter.all false
set_option maxRecDepth 100000
set_option maxHeartbeats 4000000
/-! The law's refusals: the ten lambdas. -/
namespace K7
open PySem L2 LamX LamV
theorem Canon.okFrom : ∀ {rs : List Row} {l : Int}, -1 ≤ l → (∀ r ∈ rs, l < r.1 ∧ ∀ e, r.2 = some e → r.1 < e) → rs.Pairwise gap → okFrom (some l) (rs.map rowD) = true
  | [], _, _, _, _ => rfl
  | r :: rs, l, hl, h, hp => by
    rw [List.pairwise_cons] at hp
    obtain ⟨h1, h2⟩ := h r (by simp)
    have er : okRow l (rowD r) = true := by
      obtain ⟨b, e⟩ := r
      have a1 : 0 ≤ b := by simp only at h1; omega
      have a2 : l < b := h1
      cases e with
      | none => simp [okRow, rowD, optD, okEnd, a1, a2]
      | some e => have a3 := h2 e rfl; simp only at a3; simp [okRow, rowD, optD, okEnd, a1, a2, a3]
    have eu : (unrow (rowD r)).2 = r.2 := by
      obtain ⟨b, e⟩ := r
      cases e <;> rfl
    rw [List.map_cons, K7.okFrom, er, eu, Bool.true_and]
    cases hr : r.2 with
    | none =>
      cases rs with
      | nil => rfl
      | cons s rs =>
        obtain ⟨x, hx, _⟩ := hp.1 s (by simp)
        rw [hr] at hx
        cases hx
    | some e =>
      have h3 := h2 e hr
      refine Canon.okFrom (by omega) (fun s hs => ?_) hp.2
      obtain ⟨x, hx, hlt⟩ := hp.1 s hs
      rw [hr] at hx
      cases hx
      exact ⟨hlt, (h s (by simp [hs])).2⟩
theorem unrow_row (r : Row) : unrow (rowD r) = r := by
  obtain ⟨b, e⟩ := r
  cases e <;> rfl
theorem Canon.need {rs : List Row} (c : Canon rs) {d : PyData} (h : itemsD d = some (rs.map rowD)) : needRows d = some rs := by
  unfold needRows
  rw [h]
  have := Canon.okFrom (l := -1) (by omega) (fun r hr => ⟨by have := (c.pos r hr).1; omega, (c.pos r hr).2⟩) c.gaps
  simp only [this, if_true]
  rw [List.map_map]
  congr 1
  have : (unrow ∘ rowD) = id := funext fun r => unrow_row r
  rw [this, List.map_id]
theorem plain_rows {rs : List Row} (h : rs.length ≤ 1000) {d : PyData} (e : itemsD d = some (rs.map rowD)) : plainRows d := fun ds hd => by
  rw [e] at hd
  cases hd
  refine ⟨by rw [List.length_map]; exact h, fun x hx => ?_⟩
  obtain ⟨r, _, rfl⟩ := List.mem_map.mp hx
  rfl
theorem nsome {α : Type} {x : Option α} (h : x = none) {y : α} (z : x = some y) : False := by rw [h] at z; cases z
theorem nnone {α : Type} {x : Option α} {y : α} (h : x = some y) (z : x = none) : False := by rw [h] at z; cases z
theorem notNum {d : PyData} (h : isNumD d = false) {i : Int} (e : d = .int i) (h0 : 0 ≤ i) : False := by
  rw [e] at h
  simp only [isNumD, decide_eq_false_iff_not] at h
  exact h h0
/-! ### the lambdas -/
def refLam (i : Nat) : Expr := match (defBody sRef).getD (i + 1) (.Pass ⟨0, 0, 0, 0⟩) with
  | .Assign _ (.List (.Tuple (l :: _) _ _ :: _) _) _ => l
  | .Expr (.Call _ (.Tuple (l :: _) _ _ :: _) _ _) _ => l
  | _ => .Constant .none 0 ⟨0, 0, 0, 0⟩
def refSpec : List (Bool × PyData) := [(true, .int 0), (true, .int 1), (true, .int (-1)), (false, .str "tick"), (false, .str "late"), (false, .str "tick"), (false, .str "tick"), (true, .int (-1)), (true, .int (-1)), (false, .str "since")]
def dV : PyData → V
  | .int i => .int i
  | .str x => .str x
  | _ => .non
def refC (C1 C2 : Addr) (b : Bool) : Addr := if b then C1 else C2
def refFn (b : Bool) : Str := if b then "at" else "word"
def refKind (b : Bool) : Str := if b then "stretches" else "size"
/-- what stands in the frame of refusals when the lambdas are called -/
structure Pre (T : List (Addr × Str)) (q1 q2 q3 : Addr) (vb vn : V) (rs ss : List Row) (ts : List Int) (db dn : PyData) (σ : St) (H : Hp) : Prop where
  s1 : σ[1]? = some (some (.ref q1))
  s2 : σ[2]? = some (some (.ref q2))
  s3 : σ[3]? = some (some (.ref q3))
  s4 : σ[4]? = some (some vb)
  s5 : σ[5]? = some (some vn)
  tb : Tabs T H
  d1 : Dv H (.ref q1) (.list (rs.map rowD))
  d2 : Dv H (.ref q2) (.list (ss.map rowD))
  d3 : H q3 = some (.lst (ts.map V.int))
  d4 : Dv H vb db
  d5 : Dv H vn dn
/-- the plain side of it -/
structure PreD (rs ss : List Row) (ts : List Int) (db dn : PyData) : Prop where
  c1 : Canon rs
  c2 : Canon ss
  l1 : rs.length ≤ 1000
  l2 : ss.length ≤ 1000
  l3 : ts.length ≤ 50
  bad : needRows db = none
  pl : plainRows db
  no : isNumD dn = false
  nos : itemsD dn = none
abbrev nRef : List Str := ["_law_box_here", "_law_one", "_law_other", "_law_ticks", "_law_bad", "_law_no", "_law_works", "_law_work", "_law_want"]
theorem ndRef : nRef.Nodup := by decide +kernel
theorem scRef : FnScope nRef ["_law_box_here", "_law_one", "_law_other", "_law_ticks"] (defScope sRef) := ⟨rfl, rfl, rfl, by decide +kernel, rfl, by decide +kernel, by decide +kernel⟩
section
variable {P : Program} {w : World} {K : PySem.W.Frag} {mg : Str → Option Value} {base : Heap} {C1 C2 fI1 fI2 : Addr} {T : List (Addr × Str)} {q1 q2 q3 : Addr} {vb vn : V} {rs ss : List Row} {ts : List Int} {db dn : PyData} {f c : Addr} {A : Around} {outer : List Env} {s : Shared} {H : Hp} {E : XK}
/-- the context of refusals -/
abbrev xRef (P : Program) (w : World) (K : PySem.W.Frag) (mg : Str → Option Value) (base : Heap) (f c : Addr) (A : Around) (outer : List Env) (s : Shared) (H : Hp) (E : XK) : Cx := cxOf CX0 P w K mg base nRef "_law_refusals" (defScope sRef) f (.ref c) A outer s H E
abbrev LR (C1 C2 : Addr) (T : List (Addr × Str)) (q1 q2 q3 : Addr) (vb vn : V) (rs ss : List Row) (ts : List Int) (db dn : PyData) (X : Cx) (i : Nat) (b : Bool) (d : PyData) : Prop :=
  LamRef X (Pre T q1 q2 q3 vb vn rs ss ts db dn) (refC C1 C2 b) (refFn b) (dV d) (lamP (refLam i)) (lamB (refLam i)) (lamS (refLam i))
theorem lam0 (D : PreD rs ss ts db dn) (cB : Fn7 P w K mg base (L2.CX P w) 5 "both_free" (spBoth C1) []) : LR C1 C2 T q1 q2 q3 vb vn rs ss ts db dn (xRef P w K mg base f c A outer s H E) 0 true (.int 0) := by
  refine ⟨(show LamS (defScope sRef) _ from lamS_by (by decide +kernel)), fun _ _ _ _ _ => rfl, fun f' c' E' A' outer' s' H' hr => ?_⟩
  refine PE.imp (pe_fx cB hr (by decide) (by rfl) (takes_of rfl rfl rfl rfl) (fun _ _ _ _ h => h) (pa_cons (pv 4) (pa_cons (pv 2) pa_nil))) fun σ H1 Q h => ?_
  obtain ⟨p, k⟩ := h
  exact ⟨_, p.s4, _, p.s2, _, _, _, _, rfl, p.d4, p.d2, D.pl, plain_rows D.l2 rfl, fun _ _ z => (nsome D.bad z).elim, fun _ H2 S => k H2 S, fun z => (nnone (D.c2.need rfl) z).elim⟩
theorem lam1 (D : PreD rs ss ts db dn) (cE : Fn7 P w K mg base (L2.CX P w) 7 "either_free" (spEith T C1) []) : LR C1 C2 T q1 q2 q3 vb vn rs ss ts db dn (xRef P w K mg base f c A outer s H E) 1 true (.int 1) := by
  refine ⟨(show LamS (defScope sRef) _ from lamS_by (by decide +kernel)), fun _ _ _ _ _ => rfl, fun f' c' E' A' outer' s' H' hr => ?_⟩
  refine PE.imp (pe_fx cE hr (by decide) (by rfl) (takes_of rfl rfl rfl rfl) (fun _ _ _ _ h => h) (pa_cons (pv 1) (pa_cons (pv 4) pa_nil))) fun σ H1 Q h => ?_
  obtain ⟨p, k⟩ := h
  exact ⟨_, p.s1, _, p.s4, _, _, _, _, rfl, p.d1, p.d4, plain_rows D.l1 rfl, D.pl, p.tb, fun _ _ _ z => (nsome D.bad z).elim, fun z => (nnone (D.c1.need rfl) z).elim, fun _ H2 S => k H2 S⟩
theorem lam2 (D : PreD rs ss ts db dn) (cR : Fn7 P w K mg base (L2.CX P w) 5 "room_at" (spRoom C1 C2) []) : LR C1 C2 T q1 q2 q3 vb vn rs ss ts db dn (xRef P w K mg base f c A outer s H E) 2 true (.int (-1)) := by
  refine ⟨(show LamS (defScope sRef) _ from lamS_by (by decide +kernel)), fun _ _ _ _ _ => rfl, fun f' c' E' A' outer' s' H' hr => ?_⟩
  refine PE.imp (pe_fx cR hr (by decide) (by rfl) (takes_of rfl rfl rfl rfl) (fun _ _ _ _ h => h) (pa_cons (pv 4) (pa_cons (pv 5) pa_nil))) fun σ H1 Q h => ?_
  obtain ⟨p, k⟩ := h
  exact ⟨_, p.s4, _, p.s5, _, _, _, _, rfl, p.d4, p.d5, D.pl, fun _ _ z => (nsome D.bad z).elim, fun _ H2 S => k H2 S, fun _ z => (nsome D.bad z).elim⟩
theorem lam3 (D : PreD rs ss ts db dn) (cR : Fn7 P w K mg base (L2.CX P w) 5 "room_at" (spRoom C1 C2) []) : LR C1 C2 T q1 q2 q3 vb vn rs ss ts db dn (xRef P w K mg base f c A outer s H E) 3 false (.str "tick") := by
  refine ⟨(show LamS (defScope sRef) _ from lamS_by (by decide +kernel)), fun _ _ _ _ _ => rfl, fun f' c' E' A' outer' s' H' hr => ?_⟩
  refine PE.imp (pe_fx cR hr (by decide) (by rfl) (takes_of rfl rfl rfl rfl) (fun _ _ _ _ h => h) (pa_cons (pv 1) (pa_cons (pv 5) pa_nil))) fun σ H1 Q h => ?_
  obtain ⟨p, k⟩ := h
  exact ⟨_, p.s1, _, p.s5, _, _, _, _, rfl, p.d1, p.d5, plain_rows D.l1 rfl, fun _ i _ e h0 => (notNum D.no e h0).elim, fun z => (nnone (D.c1.need rfl) z).elim, fun _ _ _ H2 S => k H2 S⟩
theorem lam4 (D : PreD rs ss ts db dn) (cS : Fn7 P w K mg base (L2.CX P w) 5 "shorten_ends" (spShort C1 C2) []) : LR C1 C2 T q1 q2 q3 vb vn rs ss ts db dn (xRef P w K mg base f c A outer s H E) 4 false (.str "late") := by
  refine ⟨(show LamS (defScope sRef) _ from lamS_by (by decide +kernel)), fun _ _ _ _ _ => rfl, fun f' c' E' A' outer' s' H' hr => ?_⟩
  refine PE.imp (pe_fx cS hr (by decide) (by rfl) (takes_of rfl rfl rfl rfl) (fun _ _ _ _ h => h) (pa_cons (pv 1) (pa_cons (pv 5) pa_nil))) fun σ H1 Q h => ?_
  obtain ⟨p, k⟩ := h
  exact ⟨_, p.s1, _, p.s5, _, _, _, _, rfl, p.d1, p.d5, plain_rows D.l1 rfl, fun _ i _ e h0 => (notNum D.no e h0).elim, fun z => (nnone (D.c1.need rfl) z).elim, fun _ H2 S => k H2 S⟩
theorem ticks_bad (D : PreD rs ss ts db dn) : ticksOf (.list (ts.map PyData.int ++ [dn])) = none := by
  unfold ticksOf itemsD
  have : (ts.map PyData.int ++ [dn]).all isNumD = false := by
    rw [List.all_append]
    simp [D.no]
  simp only [this]
  rfl
theorem lam5 (D : PreD rs ss ts db dn) (cF : Fn7 P w K mg base (L2.CX P w) 4 "free_but" (spBut C2) [.non]) : LR C1 C2 T q1 q2 q3 vb vn rs ss ts db dn (xRef P w K mg base f c A outer s H E) 5 false (.str "tick") := by
  refine ⟨(show LamS (defScope sRef) _ from lamS_by (by decide +kernel)), fun _ _ _ _ _ => rfl, fun f' c' E' A' outer' s' H' hr => ?_⟩
  refine PE.imp (pe_fx cF hr (by decide) (by rfl) (takes_of rfl rfl rfl rfl) (fun _ _ _ _ h => h) (pa_cons (pe_op op_cat (pv 3) (pe_lst (pa_cons (pv 5) pa_nil))) pa_nil)) fun σ H1 Q h => ?_
  obtain ⟨p, k⟩ := h
  have hl : (ts.map V.int).length ≤ 50 := by rw [List.length_map]; exact D.l3
  refine ⟨_, p.s3, _, p.s5, (by show 1 ≤ sizeLine; decide), fun l hl1 => ?_⟩
  have S1 := Same.new (o := .lst [vn]) hl1
  refine ⟨q3, l, ts.map V.int, [vn], rfl, rfl, S1 _ _ p.d3, upd_same, Nat.le_of_lt (small1000 (by simp only [List.length_cons, List.length_nil]; omega)), fun m hm => ?_⟩
  have S2 := S1.trans (Same.new (o := .lst (ts.map V.int ++ [vn])) hm)
  refine ⟨.ref m, .list (ts.map PyData.int ++ [dn]), none, rfl, .lst upd_same ((DvAll.ints ts).snoc (p.d5.ext (Sub.of S2))), fun ds e => ?_, fun ns z => (nsome (ticks_bad D) z).elim, fun _ H2 S => k H2 (S2.trans S), fun i e => nomatch e⟩
  cases e
  simp only [List.length_append, List.length_map, List.length_cons, List.length_nil]
  have := D.l3
  omega
theorem lam6 (D : PreD rs ss ts db dn) (cF : Fn7 P w K mg base (L2.CX P w) 4 "free_but" (spBut C2) [.non]) : LR C1 C2 T q1 q2 q3 vb vn rs ss ts db dn (xRef P w K mg base f c A outer s H E) 6 false (.str "tick") := by
  refine ⟨(show LamS (defScope sRef) _ from lamS_by (by decide +kernel)), fun _ _ _ _ _ => rfl, fun f' c' E' A' outer' s' H' hr => ?_⟩
  refine PE.imp (pe_fx cF hr (by decide) (by rfl) (takes_of rfl rfl rfl rfl) (fun _ _ _ _ h => h) (pa_cons (pv 5) pa_nil)) fun σ H1 Q h => ?_
  obtain ⟨p, k⟩ := h
  have tn : ticksOf dn = none := by unfold ticksOf; rw [D.nos]
  exact ⟨_, p.s5, _, dn, none, rfl, p.d5, fun ds e => (nsome D.nos e).elim, fun ns z => (nsome tn z).elim, fun _ H2 S => k H2 S, fun i e => nomatch e⟩
theorem lam7 (D : PreD rs ss ts db dn) (cF : Fn7 P w K mg base (L2.CX P w) 6 "is_free_at" (spFree C1 C2) []) : LR C1 C2 T q1 q2 q3 vb vn rs ss ts db dn (xRef P w K mg base f c A outer s H E) 7 true (.int (-1)) := by
  refine ⟨(show LamS (defScope sRef) _ from lamS_by (by decide +kernel)), fun _ _ _ _ _ => rfl, fun f' c' E' A' outer' s' H' hr => ?_⟩
  refine PE.imp (pe_fx cF hr (by decide) (by rfl) (takes_of rfl rfl rfl rfl) (fun _ _ _ _ h => h) (pa_cons (pv 4) (pa_cons pe_int pa_nil))) fun σ H1 Q h => ?_
  obtain ⟨p, k⟩ := h
  exact ⟨_, p.s4, _, .int 0, _, .int 0, rfl, p.d4, .int 0, D.pl, fun _ _ z => (nsome D.bad z).elim, fun _ H2 S => k H2 S, rfl⟩
theorem lam8 (D : PreD rs ss ts db dn) (cS : Fn7 P w K mg base (L2.CX P w) 5 "shorten_ends" (spShort C1 C2) []) : LR C1 C2 T q1 q2 q3 vb vn rs ss ts db dn (xRef P w K mg base f c A outer s H E) 8 true (.int (-1)) := by
  refine ⟨(show LamS (defScope sRef) _ from lamS_by (by decide +kernel)), fun _ _ _ _ _ => rfl, fun f' c' E' A' outer' s' H' hr => ?_⟩
  refine PE.imp (pe_fx cS hr (by decide) (by rfl) (takes_of rfl rfl rfl rfl) (fun _ _ _ _ h => h) (pa_cons (pv 4) (pa_cons pe_int pa_nil))) fun σ H1 Q h => ?_
  obtain ⟨p, k⟩ := h
  exact ⟨_, p.s4, _, .int 0, _, .int 0, rfl, p.d4, .int 0, D.pl, fun _ _ z => (nsome D.bad z).elim, fun _ H2 S => k H2 S, fun z => nomatch z⟩
theorem lam9 (D : PreD rs ss ts db dn) (cF : Fn7 P w K mg base (L2.CX P w) 4 "free_but" (spBut C2) []) : LR C1 C2 T q1 q2 q3 vb vn rs ss ts db dn (xRef P w K mg base f c A outer s H E) 9 false (.str "since") := by
  refine ⟨(show LamS (defScope sRef) _ from lamS_by (by decide +kernel)), fun _ _ _ _ _ => rfl, fun f' c' E' A' outer' s' H' hr => ?_⟩
  refine PE.imp (pe_fx cF hr (by decide) (by rfl) (takes_of rfl rfl rfl rfl) (fun _ _ _ _ h => h) (pa_cons (pe_lst pa_nil) (pa_cons (pe_un un_neg pe_int) pa_nil))) fun σ H1 Q h => ?_
  obtain ⟨p, k⟩ := h
  refine ⟨Nat.zero_le _, fun l hl => ⟨1, rfl, .ref l, .list [], some (-1), rfl, .lst upd_same .nil, (fun ds e => by cases e; exact Nat.zero_le _), (fun ns _ h => by have := h (-1) rfl; omega), (fun z => nomatch z), fun i _ _ H2 S => k H2 ((Same.new hl).trans S)⟩⟩
end
end K7
end

section
set_option Elab.async false
set_option linter.all false
set_option maxRecDepth 100000
set_option maxHeartbeats 4000000
/-! The law's refusals: the walk. -/
namespace K7
open PySem L2 LamX LamV
/-- the works made so far -/
def WIt (X : Cx) (H : Hp) (acc : List V) (n : Nat) : Prop := acc.length = n ∧ ∀ i v, acc[i]? = some v → ∃ b d, refSpec[i]? = some (b, d) ∧ ∃ t f c u, v = .ref t ∧ H t = some (.tup [.ref f, .ref u]) ∧
  H f = some (LamO X f c (lamP (refLam i)) (lamB (refLam i)) (lamS (refLam i))) ∧ H c = some (CodeO c (X.env.qual ++ "<lambda>")) ∧ H u = some (.tup [.str (refKind b), dV d])
theorem lamO_tbl {X : Cx} {f c : Addr} {a : Arguments} {b : Expr} {s : Scope} (ps : Array Value) : LamO X f c a b s ≠ .tbl ps := fun z => by unfold LamO at z; cases z
theorem lamO_lst {X : Cx} {f c : Addr} {a : Arguments} {b : Expr} {s : Scope} (xs : List V) : LamO X f c a b s ≠ .lst xs := fun z => by unfold LamO at z; cases z
theorem codeO_lst {c : Addr} {q : Str} (xs : List V) : CodeO c q ≠ .lst xs := fun z => by unfold CodeO at z; cases z
theorem WIt.mono {X : Cx} {H H' : Hp} {acc : List V} {n : Nat} {W : Addr} {ys : List V} (w : WIt X H acc n) (hW : H W = some (.lst ys)) (k : ∀ b o, b ≠ W → H b = some o → (∀ ps, o ≠ .tbl ps) → H' b = some o) : WIt X H' acc n := by
  refine ⟨w.1, fun i v hv => ?_⟩
  obtain ⟨b, d, e, t, f, c, u, e1, h1, h2, h3, h4⟩ := w.2 i v hv
  have ne : ∀ {b : Addr} {o : HO}, H b = some o → (∀ xs, o ≠ .lst xs) → b ≠ W := fun h n z => by rw [z, hW] at h; exact n _ (Option.some.inj h).symm
  exact ⟨b, d, e, t, f, c, u, e1, k _ _ (ne h1 fun _ z => by cases z) h1 (fun _ z => by cases z), k _ _ (ne h2 fun _ z => lamO_lst _ z) h2 (fun _ z => lamO_tbl _ z), k _ _ (ne h3 fun _ z => codeO_lst _ z) h3 (fun _ z => codeO_ne _ z), k _ _ (ne h4 fun _ z => by cases z) h4 (fun _ z => by cases z)⟩
theorem WIt.push {X : Cx} {H : Hp} {acc : List V} {n : Nat} {t f c u : Addr} {b : Bool} {d : PyData} (w : WIt X H acc n) (e : refSpec[n]? = some (b, d)) (h1 : H t = some (.tup [.ref f, .ref u])) (h2 : H f = some (LamO X f c (lamP (refLam n)) (lamB (refLam n)) (lamS (refLam n))))
    (h3 : H c = some (CodeO c (X.env.qual ++ "<lambda>"))) (h4 : H u = some (.tup [.str (refKind b), dV d])) : WIt X H (acc ++ [.ref t]) (n + 1) := by
  refine ⟨by rw [List.length_append, w.1]; rfl, fun i v hv => ?_⟩
  by_cases hi : i < n
  · rw [List.getElem?_append_left (by rw [w.1]; exact hi)] at hv
    exact w.2 i v hv
  · rw [List.getElem?_append_right (by rw [w.1]; omega)] at hv
    have hl : i - acc.length = 0 := by
      cases q : i - acc.length with
      | zero => rfl
      | succ m => rw [q] at hv; simp at hv
    rw [hl] at hv
    have ei : i = n := by rw [w.1] at hl; omega
    subst ei
    exact ⟨b, d, e, t, f, c, u, (Option.some.inj hv).symm, h1, h2, h3, h4⟩
structure RSt (X : Cx) (T : List (Addr × Str)) (G0 : Hp) (W : Addr) (n : Nat) (H : Hp) : Prop where
  ext : ExtN G0 H
  new : ∀ o, G0 W = some o → ∃ ps, o = .tbl ps
  tb : Tabs T H
  it : ∃ acc, H W = some (.lst acc) ∧ WIt X H acc n
/-- the reading of one pair: a lambda, what it is to give -/
abbrev tPair (X : Cx) (T : List (Addr × Str)) (n : Nat) (b : Bool) (d : PyData) : TE := tTup (tCons (tLamN X T (lamP (refLam n)) (lamB (refLam n)) (lamS (refLam n))) (tCons (tTup (tCons (tC (.str (refKind b))) (tCons (tC (dV d)) tNil))) tNil))
theorem app_lam {K : PySem.W.Frag} {X : Cx} {T : List (Addr × Str)} {G0 H : Hp} {W : Addr} {n : Nat} {b : Bool} {d : PyData} {σ : St} {D : Ends} (hW : σ[6]? = some (some (.ref W))) (hs : refSpec[n]? = some (b, d)) (st : RSt X T G0 W n H)
    (k : ∀ H', RSt X T G0 W (n + 1) H' → D.nx σ H') : tDrop (tBM K "list" rAppend (tVar 6) (tCons (tPair X T n b d) tNil)) D σ H := by
  obtain ⟨acc, hacc, hw⟩ := st.it
  refine ⟨_, hW, .inl ⟨rfl, _, SqL.of hacc⟩, st.tb, fun f c H1 o hE hT hf hc ho => ?_⟩
  have Sf := Same.new (o := o) hf
  refine ⟨(by show 2 ≤ sizeLine; decide), fun u hu => ⟨(by show 2 ≤ sizeLine; decide), fun t ht => ?_⟩⟩
  have Su := Same.new (o := .tup [.str (refKind b), dV d]) hu
  have St := Same.new (o := .tup [.ref f, .ref u]) ht
  have S1 : ExtN H1 _ := ExtN.of (Sf.trans (Su.trans St))
  have hW1 := hE _ _ hacc (fun _ z => by cases z)
  have hW4 := St _ _ (Su _ _ (Sf _ _ hW1))
  have hn : n < refSpec.length := (List.getElem?_eq_some_iff.mp hs).1
  refine ⟨W, acc, .ref t, rfl, rfl, hW4, small1000 (by rw [hw.1]; exact Nat.le_of_lt (Nat.lt_of_lt_of_le hn (by decide))), k _ ?_⟩
  have E4 : ExtN H _ := hE.trans S1
  have w4 : WIt X _ acc n := hw.mono hacc fun b o _ h1 h2 => E4 b o h1 h2
  have w5 := w4.push (b := b) (d := d) hs upd_same (St _ _ (Su _ _ (by rw [upd_same, ho]))) (St _ _ (Su _ _ (Sf _ _ hc))) (St _ _ upd_same)
  refine ⟨fun x o2 hx hn2 => ?_, st.new, ?_, _, upd_same, ?_⟩
  · rw [upd_ne (fun z => by rw [z] at hx; obtain ⟨ps, e⟩ := st.new _ hx; exact hn2 ps e)]
    exact E4 _ _ (st.ext _ _ hx hn2) hn2
  · have T4 : Tabs T _ := Tabs.ext hT (Sf.trans (Su.trans St))
    have T5 := Tabs.offL T4 hW4
    refine Tabs.ext T5 fun x o2 hx => ?_
    have hxW : x ≠ W := fun z => by rw [z, off_at] at hx; cases hx
    rw [upd_ne hxW]
    exact off_le _ _ hx
  · exact w5.mono hW4 fun x o2 hx h1 _ => by rw [upd_ne hx]; exact h1
section
variable {P : Program} {w : World} {K : PySem.W.Frag} {mg : Str → Option Value} {base : Heap} {C1 C2 fI1 fI2 : Addr} {T : List (Addr × Str)}
def spRef (T : List (Addr × Str)) : Sp := fun vs H Q _ => ∃ p q1 q2 q3, ∃ rs ss : List Row, ∃ ts : List Int, vs = [.ref p, .ref q1, .ref q2, .ref q3] ∧ Bx p H ∧ Tabs T H ∧ Dv (off p H) (.ref q1) (.list (rs.map rowD)) ∧ Dv (off p H) (.ref q2) (.list (ss.map rowD)) ∧ off p H q3 = some (.lst (ts.map V.int)) ∧
  Canon rs ∧ Canon ss ∧ rs.length ≤ 4 ∧ ss.length ≤ 4 ∧ ts.length ≤ 50 ∧ ∀ H', Bx p H' → ExtN (off p H) (off p H') → Tabs T H' → Q (.bl true) H'
theorem pick4 {i : Nat} {v : V} (h : [V.int (-1), .non, .bl true, .str "a"][i]? = some v) : ∃ d, (∀ G, Dv G v d) ∧ isNumD d = false ∧ itemsD d = none := by
  match i, h with
  | 0, h => cases h; exact ⟨.int (-1), fun _ => .int _, rfl, rfl⟩
  | 1, h => cases h; exact ⟨.none, fun _ => .non, rfl, rfl⟩
  | 2, h => cases h; exact ⟨.bool true, fun _ => .bl _, rfl, rfl⟩
  | 3, h => cases h; exact ⟨.str "a", fun _ => .str _, rfl, rfl⟩
  | i + 4, h => simp at h
theorem lamFree (i : Nat) (hi : i < 10) : LamS (defScope sRef) (lamS (refLam i)) := by
  match i, hi with
  | 0, _ => exact lamS_by (by decide +kernel)
  | 1, _ => exact lamS_by (by decide +kernel)
  | 2, _ => exact lamS_by (by decide +kernel)
  | 3, _ => exact lamS_by (by decide +kernel)
  | 4, _ => exact lamS_by (by decide +kernel)
  | 5, _ => exact lamS_by (by decide +kernel)
  | 6, _ => exact lamS_by (by decide +kernel)
  | 7, _ => exact lamS_by (by decide +kernel)
  | 8, _ => exact lamS_by (by decide +kernel)
  | 9, _ => exact lamS_by (by decide +kernel)
  | i + 10, h => omega
/-- a pair's term: its lambda's free names are the def's -/
theorem pe_pair {X : Cx} {c Pr : Addr} {n : Nat} {b : Bool} {d : PyData} {params : Arguments} {body : Expr} {scope : Scope} {lpos pos pos2 : Pos} {k k2 j : Nat} {e : Expr} {sp : Pos} (hX : X.env.scope = defScope sRef) (hn : n < 10) (TB : TabB X.base X.mg c Pr) (hcode : X.env.code = .ref c)
    (hm : (Pr, X.env.qual ++ "<lambda>") ∈ T) (hu : ∀ p ∈ T, p.1 = Pr → p.2 = X.env.qual ++ "<lambda>") (e1 : params = lamP (refLam n)) (e2 : body = lamB (refLam n)) (e3 : scope = lamS (refLam n)) (hdef : defaultsOf params X.env = ([], [])) (he : PE X e (tC (dV d)))
    (hs1 : starEach [.Constant (.str (refKind b)) j sp, e] X.env = (false, eval (.Constant (.str (refKind b)) j sp) X.env) :: starEach [e] X.env) (hs2 : starEach [e] X.env = (false, eval e X.env) :: starEach [] X.env)
    (hs3 : starEach [.Lambda params body scope lpos, .Tuple [.Constant (.str (refKind b)) j sp, e] k2 pos2] X.env = (false, eval (.Lambda params body scope lpos) X.env) :: starEach [.Tuple [.Constant (.str (refKind b)) j sp, e] k2 pos2] X.env)
    (hs4 : starEach [.Tuple [.Constant (.str (refKind b)) j sp, e] k2 pos2] X.env = (false, eval (.Tuple [.Constant (.str (refKind b)) j sp, e] k2 pos2) X.env) :: starEach [] X.env) :
    PE X (.Tuple [.Lambda params body scope lpos, .Tuple [.Constant (.str (refKind b)) j sp, e] k2 pos2] k pos) (tPair X T n b d) := by
  subst e1 e2 e3
  exact pe_tup (pa_cons (PE.imp (pe_lambda TB hcode hm hu (fun y hy e => by rw [hX]; exact (lamFree n hn).free y hy e) hdef) fun _ _ _ h => tLamN.to h) (pa_cons (pe_tup (pa_cons pe_str (pa_cons he pa_nil hs2) hs1)) pa_nil hs4) hs3)
theorem pe_neg1 {X : Cx} {k : Nat} {p1 p2 : Pos} : PE X (.UnaryOp .USub (.Constant (.int 1) k p1) p2) (tC (dV (.int (-1)))) := PE.imp (pe_un un_neg pe_int) fun σ H Q h => ⟨1, rfl, h⟩
structure RefFns (P : Program) (w : World) (K : PySem.W.Frag) (mg : Str → Option Value) (base : Heap) (T : List (Addr × Str)) (C1 C2 : Addr) : Prop where
  cW : Fn7 P w K mg base CX0 3 "_law_wrong" spWrong []
  cP : Fn7 P w K mg base CX0 2 "_law_pick" spPick []
  cB : Fn7 P w K mg base (L2.CX P w) 5 "both_free" (spBoth C1) []
  cE : Fn7 P w K mg base (L2.CX P w) 7 "either_free" (spEith T C1) []
  cR : Fn7 P w K mg base (L2.CX P w) 5 "room_at" (spRoom C1 C2) []
  cS : Fn7 P w K mg base (L2.CX P w) 5 "shorten_ends" (spShort C1 C2) []
  cF0 : Fn7 P w K mg base (L2.CX P w) 4 "free_but" (spBut C2) []
  cF1 : Fn7 P w K mg base (L2.CX P w) 4 "free_but" (spBut C2) [.non]
  cI : Fn7 P w K mg base (L2.CX P w) 6 "is_free_at" (spFree C1 C2) []
theorem lr_all {q1 q2 q3 : Addr} {vb vn : V} {rs ss : List Row} {ts : List Int} {db dn : PyData} {f c : Addr} {A : Around} {outer : List Env} {s : Shared} {H : Hp} {E : XK} (D : PreD rs ss ts db dn) (F : RefFns P w K mg base T C1 C2) {i : Nat} {b : Bool} {d : PyData} (h : refSpec[i]? = some (b, d)) :
    LR C1 C2 T q1 q2 q3 vb vn rs ss ts db dn (xRef P w K mg base f c A outer s H E) i b d := by
  match i, h with
  | 0, h => cases h; exact lam0 D F.cB
  | 1, h => cases h; exact lam1 D F.cE
  | 2, h => cases h; exact lam2 D F.cR
  | 3, h => cases h; exact lam3 D F.cR
  | 4, h => cases h; exact lam4 D F.cS
  | 5, h => cases h; exact lam5 D F.cF1
  | 6, h => cases h; exact lam6 D F.cF1
  | 7, h => cases h; exact lam7 D F.cI
  | 8, h => cases h; exact lam8 D F.cS
  | 9, h => cases h; exact lam9 D F.cF0
  | i + 10, h => simp [refSpec] at h
theorem spec_lay {i : Nat} {b : Bool} {d : PyData} (h : refSpec[i]? = some (b, d)) : SeqAt.shaped (.tuple [.str (refKind b), d]) = true ∧ ∀ G, Dv G (dV d) d := by
  match i, h with
  | 0, h => cases h; exact ⟨by decide +kernel, fun _ => .int _⟩
  | 1, h => cases h; exact ⟨by decide +kernel, fun _ => .int _⟩
  | 2, h => cases h; exact ⟨by decide +kernel, fun _ => .int _⟩
  | 3, h => cases h; exact ⟨by decide +kernel, fun _ => .str _⟩
  | 4, h => cases h; exact ⟨by decide +kernel, fun _ => .str _⟩
  | 5, h => cases h; exact ⟨by decide +kernel, fun _ => .str _⟩
  | 6, h => cases h; exact ⟨by decide +kernel, fun _ => .str _⟩
  | 7, h => cases h; exact ⟨by decide +kernel, fun _ => .int _⟩
  | 8, h => cases h; exact ⟨by decide +kernel, fun _ => .int _⟩
  | 9, h => cases h; exact ⟨by decide +kernel, fun _ => .str _⟩
  | i + 10, h => simp [refSpec] at h
def dRef (i : Nat) : Stmt := (defBody sRef).getD i (.Pass ⟨0, 0, 0, 0⟩)
theorem dRef_all : defBody sRef = [dRef 0, dRef 1, dRef 2, dRef 3, dRef 4, dRef 5, dRef 6, dRef 7, dRef 8, dRef 9, dRef 10, dRef 11] := by
  unfold dRef
  rfl
theorem st_pair {k : Nat} {f c : Addr} {A : Around} {outer : List Env} {s : Shared} {H : Hp} {E : XK} (hr : Room k (xRef P w K mg base f c A outer s H E).A) (hk : 3 ≤ k) (R : RefFns P w K mg base T C1 C2) :
    PS (xRef P w K mg base f c A outer s H E) (dRef 0) (tAsg (tTup (tCons (tCall spWrong [] E0 (tCons (tVar 0) (tCons (tVar 1) tNil))) (tCons (tCall spPick [] E0 (tCons (tVar 0) (tCons (tLst (tCons (tUn (rU fun i => .int (-i)) (tC (.int 1))) (tCons (tC .non) (tCons (tC (.bl true)) (tCons (tC (.str "a")) tNil))))) tNil))) tNil)))
      (gTup K 2 (gCons (gName 4) (gCons (gName 5) gNil)))) := by
  unfold dRef
  exact ps_asg (pe_tup (pa_cons (pe_f R.cW hr hk (by rfl) (pa_cons (pv 0) (pa_cons (pv 1) pa_nil))) (pa_cons (pe_f R.cP hr (by omega) (by rfl) (pa_cons (pv 0) (pa_cons (pe_lst (pa_cons (pe_un un_neg pe_int) (pa_cons pe_non (pa_cons pe_bl (pa_cons pe_str pa_nil))))) pa_nil))) pa_nil)))
        (pg_tup rfl (pgs_cons (pg_name (i := 4) ndRef rfl (Or.inr rfl)) (pgs_cons (pg_name (i := 5) ndRef rfl (Or.inr rfl)) pgs_nil)))
theorem st_list {f c Pr : Addr} {A : Around} {outer : List Env} {s : Shared} {H : Hp} {E : XK} (TB : TabB base mg c Pr) (hm : (Pr, PySem.Str.ofString "_law_refusals" ++ ".<locals>." ++ "<lambda>") ∈ T) (hu : ∀ p ∈ T, p.1 = Pr → p.2 = PySem.Str.ofString "_law_refusals" ++ ".<locals>." ++ "<lambda>") :
    PS (xRef P w K mg base f c A outer s H E) (dRef 1) (tAsg (tLst (tCons (tPair (xRef P w K mg base f c A outer s H E) T 0 true (.int 0)) tNil)) (gName 6)) := by
  unfold dRef
  exact ps_set (i := 6) ndRef rfl (Or.inl rfl) (pe_lst (pa_cons (pe_pair (n := 0) (b := true) (d := .int 0) rfl (by decide) TB rfl hm hu rfl rfl rfl rfl pe_int rfl rfl rfl rfl) pa_nil))
theorem st_app1 {f c Pr : Addr} {A : Around} {outer : List Env} {s : Shared} {H : Hp} {E : XK} (TB : TabB base mg c Pr) (hm : (Pr, PySem.Str.ofString "_law_refusals" ++ ".<locals>." ++ "<lambda>") ∈ T) (hu : ∀ p ∈ T, p.1 = Pr → p.2 = PySem.Str.ofString "_law_refusals" ++ ".<locals>." ++ "<lambda>") :
    PS (xRef P w K mg base f c A outer s H E) (dRef 2) (tDrop (tBM K "list" rAppend (tVar 6) (tCons (tPair (xRef P w K mg base f c A outer s H E) T 1 true (.int 1)) tNil))) := by
  unfold dRef
  exact ps_expr (pe_bm PySem.F.plainAttrs_list PySem.F.slot_list_append PySem.F.type_list_append mt_append (pv 6) (pa_cons (pe_pair (n := 1) (b := true) (d := .int 1) rfl (by decide) TB rfl hm hu rfl rfl rfl rfl pe_int rfl rfl rfl rfl) pa_nil))
theorem st_app2 {f c Pr : Addr} {A : Around} {outer : List Env} {s : Shared} {H : Hp} {E : XK} (TB : TabB base mg c Pr) (hm : (Pr, PySem.Str.ofString "_law_refusals" ++ ".<locals>." ++ "<lambda>") ∈ T) (hu : ∀ p ∈ T, p.1 = Pr → p.2 = PySem.Str.ofString "_law_refusals" ++ ".<locals>." ++ "<lambda>") :
    PS (xRef P w K mg base f c A outer s H E) (dRef 3) (tDrop (tBM K "list" rAppend (tVar 6) (tCons (tPair (xRef P w K mg base f c A outer s H E) T 2 true (.int (-1))) tNil))) := by
  unfold dRef
  exact ps_expr (pe_bm PySem.F.plainAttrs_list PySem.F.slot_list_append PySem.F.type_list_append mt_append (pv 6) (pa_cons (pe_pair (n := 2) (b := true) (d := .int (-1)) rfl (by decide) TB rfl hm hu rfl rfl rfl rfl pe_neg1 rfl rfl rfl rfl) pa_nil))
theorem st_app3 {f c Pr : Addr} {A : Around} {outer : List Env} {s : Shared} {H : Hp} {E : XK} (TB : TabB base mg c Pr) (hm : (Pr, PySem.Str.ofString "_law_refusals" ++ ".<locals>." ++ "<lambda>") ∈ T) (hu : ∀ p ∈ T, p.1 = Pr → p.2 = PySem.Str.ofString "_law_refusals" ++ ".<locals>." ++ "<lambda>") :
    PS (xRef P w K mg base f c A outer s H E) (dRef 4) (tDrop (tBM K "list" rAppend (tVar 6) (tCons (tPair (xRef P w K mg base f c A outer s H E) T 3 false (.str "tick")) tNil))) := by
  unfold dRef
  exact ps_expr (pe_bm PySem.F.plainAttrs_list PySem.F.slot_list_append PySem.F.type_list_append mt_append (pv 6) (pa_cons (pe_pair (n := 3) (b := false) (d := .str "tick") rfl (by decide) TB rfl hm hu rfl rfl rfl rfl pe_str rfl rfl rfl rfl) pa_nil))
theorem st_app4 {f c Pr : Addr} {A : Around} {outer : List Env} {s : Shared} {H : Hp} {E : XK} (TB : TabB base mg c Pr) (hm : (Pr, PySem.Str.ofString "_law_refusals" ++ ".<locals>." ++ "<lambda>") ∈ T) (hu : ∀ p ∈ T, p.1 = Pr → p.2 = PySem.Str.ofString "_law_refusals" ++ ".<locals>." ++ "<lambda>") :
    PS (xRef P w K mg base f c A outer s H E) (dRef 5) (tDrop (tBM K "list" rAppend (tVar 6) (tCons (tPair (xRef P w K mg base f c A outer s H E) T 4 false (.str "late")) tNil))) := by
  unfold dRef
  exact ps_expr (pe_bm PySem.F.plainAttrs_list PySem.F.slot_list_append PySem.F.type_list_append mt_append (pv 6) (pa_cons (pe_pair (n := 4) (b := false) (d := .str "late") rfl (by decide) TB rfl hm hu rfl rfl rfl rfl pe_str rfl rfl rfl rfl) pa_nil))
theorem st_app5 {f c Pr : Addr} {A : Around} {outer : List Env} {s : Shared} {H : Hp} {E : XK} (TB : TabB base mg c Pr) (hm : (Pr, PySem.Str.ofString "_law_refusals" ++ ".<locals>." ++ "<lambda>") ∈ T) (hu : ∀ p ∈ T, p.1 = Pr → p.2 = PySem.Str.ofString "_law_refusals" ++ ".<locals>." ++ "<lambda>") :
    PS (xRef P w K mg base f c A outer s H E) (dRef 6) (tDrop (tBM K "list" rAppend (tVar 6) (tCons (tPair (xRef P w K mg base f c A outer s H E) T 5 false (.str "tick")) tNil))) := by
  unfold dRef
  exact ps_expr (pe_bm PySem.F.plainAttrs_list PySem.F.slot_list_append PySem.F.type_list_append mt_append (pv 6) (pa_cons (pe_pair (n := 5) (b := false) (d := .str "tick") rfl (by decide) TB rfl hm hu rfl rfl rfl rfl pe_str rfl rfl rfl rfl) pa_nil))
theorem st_app6 {f c Pr : Addr} {A : Around} {outer : List Env} {s : Shared} {H : Hp} {E : XK} (TB : TabB base mg c Pr) (hm : (Pr, PySem.Str.ofString "_law_refusals" ++ ".<locals>." ++ "<lambda>") ∈ T) (hu : ∀ p ∈ T, p.1 = Pr → p.2 = PySem.Str.ofString "_law_refusals" ++ ".<locals>." ++ "<lambda>") :
    PS (xRef P w K mg base f c A outer s H E) (dRef 7) (tDrop (tBM K "list" rAppend (tVar 6) (tCons (tPair (xRef P w K mg base f c A outer s H E) T 6 false (.str "tick")) tNil))) := by
  unfold dRef
  exact ps_expr (pe_bm PySem.F.plainAttrs_list PySem.F.slot_list_append PySem.F.type_list_append mt_append (pv 6) (pa_cons (pe_pair (n := 6) (b := false) (d := .str "tick") rfl (by decide) TB rfl hm hu rfl rfl rfl rfl pe_str rfl rfl rfl rfl) pa_nil))
theorem st_app7 {f c Pr : Addr} {A : Around} {outer : List Env} {s : Shared} {H : Hp} {E : XK} (TB : TabB base mg c Pr) (hm : (Pr, PySem.Str.ofString "_law_refusals" ++ ".<locals>." ++ "<lambda>") ∈ T) (hu : ∀ p ∈ T, p.1 = Pr → p.2 = PySem.Str.ofString "_law_refusals" ++ ".<locals>." ++ "<lambda>") :
    PS (xRef P w K mg base f c A outer s H E) (dRef 8) (tDrop (tBM K "list" rAppend (tVar 6) (tCons (tPair (xRef P w K mg base f c A outer s H E) T 7 true (.int (-1))) tNil))) := by
  unfold dRef
  exact ps_expr (pe_bm PySem.F.plainAttrs_list PySem.F.slot_list_append PySem.F.type_list_append mt_append (pv 6) (pa_cons (pe_pair (n := 7) (b := true) (d := .int (-1)) rfl (by decide) TB rfl hm hu rfl rfl rfl rfl pe_neg1 rfl rfl rfl rfl) pa_nil))
theorem st_app8 {f c Pr : Addr} {A : Around} {outer : List Env} {s : Shared} {H : Hp} {E : XK} (TB : TabB base mg c Pr) (hm : (Pr, PySem.Str.ofString "_law_refusals" ++ ".<locals>." ++ "<lambda>") ∈ T) (hu : ∀ p ∈ T, p.1 = Pr → p.2 = PySem.Str.ofString "_law_refusals" ++ ".<locals>." ++ "<lambda>") :
    PS (xRef P w K mg base f c A outer s H E) (dRef 9) (tDrop (tBM K "list" rAppend (tVar 6) (tCons (tPair (xRef P w K mg base f c A outer s H E) T 8 true (.int (-1))) tNil))) := by
  unfold dRef
  exact ps_expr (pe_bm PySem.F.plainAttrs_list PySem.F.slot_list_append PySem.F.type_list_append mt_append (pv 6) (pa_cons (pe_pair (n := 8) (b := true) (d := .int (-1)) rfl (by decide) TB rfl hm hu rfl rfl rfl rfl pe_neg1 rfl rfl rfl rfl) pa_nil))
theorem st_app9 {f c Pr : Addr} {A : Around} {outer : List Env} {s : Shared} {H : Hp} {E : XK} (TB : TabB base mg c Pr) (hm : (Pr, PySem.Str.ofString "_law_refusals" ++ ".<locals>." ++ "<lambda>") ∈ T) (hu : ∀ p ∈ T, p.1 = Pr → p.2 = PySem.Str.ofString "_law_refusals" ++ ".<locals>." ++ "<lambda>") :
    PS (xRef P w K mg base f c A outer s H E) (dRef 10) (tDrop (tBM K "list" rAppend (tVar 6) (tCons (tPair (xRef P w K mg base f c A outer s H E) T 9 false (.str "since")) tNil))) := by
  unfold dRef
  exact ps_expr (pe_bm PySem.F.plainAttrs_list PySem.F.slot_list_append PySem.F.type_list_append mt_append (pv 6) (pa_cons (pe_pair (n := 9) (b := false) (d := .str "since") rfl (by decide) TB rfl hm hu rfl rfl rfl rfl pe_str rfl rfl rfl rfl) pa_nil))
theorem st_ret {PRE : St → Hp → Prop} {k : Nat} {f c g : Addr} {fdT : FuncData} {A : Around} {outer : List Env} {s : Shared} {H : Hp} {E : XK} (hr : Room 10 (xRef P w K mg base f c A outer s H E).A) (FT : FnP K "_law_told" sTold [] g fdT) (mT : mg "_law_told" = some (.ref g))
    (T1 : PySem.ErrX.OwnTxt P K mg "InvalidStretches" sE1 "at" C1 fI1) (T2 : PySem.ErrX.OwnTxt P K mg "InvalidSize" sE2 "word" C2 fI2)
    (e11 : PySem.W.exmOne K (.ref C1) (.ref C1) = some true) (e21 : PySem.W.exmOne K (.ref C2) (.ref C1) = some false) (e22 : PySem.W.exmOne K (.ref C2) (.ref C2) = some true) :
    PS (xRef P w K mg base f c A outer s H E) (dRef 11) (tRet (tOp (rEqD K) (tNo (iSeqS (tVar 6)) (gTup K 2 (gCons (gName 7) (gCons (gName 8) gNil))) (fun σ => tTest (tOp (rNeD K) (tTold (xRef P w K mg base f c A outer s H E) σ PRE C1 C2 (tCons (tVar 7) tNil)) (tVar 8))) [7, 8]) (tLst tNil))) := by
  unfold dRef
  exact ps_ret (pe_cmpR (op_eqD hr.units) (pe_lcNo (own := [("_law_work", 7), ("_law_want", 8)]) (tt := fun σ => tTest (tOp (rNeD K) (tTold (xRef P w K mg base f c A outer s H E) σ PRE C1 C2 (tCons (tVar 7) tNil)) (tVar 8))) (g := gTup K 2 (gCons (gName 7) (gCons (gName 8) gNil))) rfl ndRef (pi_seqS (pv 6))
          (blkOk_by (own := [("_law_work", 7), ("_law_want", 8)]) (N := nRef) (sc := defScope sRef) (by decide +kernel))
          (fun _ _ _ _ _ => pg_tup rfl (pgs_cons (pg_name (i := 7) ndRef rfl (Or.inl rfl)) (pgs_cons (pg_name (i := 8) ndRef rfl (Or.inl rfl)) pgs_nil)))
          (fun pins σ _ _ _ _ _ sees => pts_one (pt_cmpR (op_neD hr.units) (pe_told FT mT T1 T2 e11 e21 e22 hr sees (by rfl) (pa_cons (pv 7) pa_nil)) (pv 8) (nomark _))))
          (pe_lst pa_nil) (nomark _))
end
end K7
end

section
set_option Elab.async false
set_option linter.all false
set_option maxRecDepth 100000
set_option maxHeartbeats 4000000
/-! The law's refusals: the promise. -/
namespace K7
open PySem L2 LamX LamV
def PreX (T : List (Addr × Str)) (q1 q2 q3 : Addr) (rs ss : List Row) (ts : List Int) : St → Hp → Prop := fun σ H => ∃ vb vn db dn, PreD rs ss ts db dn ∧ Pre T q1 q2 q3 vb vn rs ss ts db dn σ H
section
variable {P : Program} {w : World} {K : PySem.W.Frag} {mg : Str → Option Value} {base : Heap} {C1 C2 fI1 fI2 : Addr} {T : List (Addr × Str)}
theorem lrX {q1 q2 q3 : Addr} {rs ss : List Row} {ts : List Int} {vb vn : V} {db dn : PyData} {f c : Addr} {A : Around} {outer : List Env} {s : Shared} {H : Hp} {E : XK} (D : PreD rs ss ts db dn) (F : RefFns P w K mg base T C1 C2) {i : Nat} {b : Bool} {d : PyData} (h : refSpec[i]? = some (b, d)) :
    LamRef (xRef P w K mg base f c A outer s H E) (PreX T q1 q2 q3 rs ss ts) (refC C1 C2 b) (refFn b) (dV d) (lamP (refLam i)) (lamB (refLam i)) (lamS (refLam i)) := by
  have L0 : LR C1 C2 T q1 q2 q3 vb vn rs ss ts db dn (xRef P w K mg base f c A outer s H E) i b d := lr_all D F h
  refine ⟨L0.L, L0.bind, fun f' c' E' A' outer' s' H' hr => ⟨fun pins sZ σ HZ Q I q => ?_⟩⟩
  obtain ⟨⟨vb', vn', db', dn', D', pre⟩, k⟩ := q
  have L1 : LR C1 C2 T q1 q2 q3 vb' vn' rs ss ts db' dn' (xRef P w K mg base f c A outer s H E) i b d := lr_all D' F h
  exact (L1.go f' c' E' A' outer' s' H' hr).run pins sZ σ HZ Q I ⟨pre, k⟩
theorem ok_refusals {f c Pr g : Addr} {fd fdT : FuncData} (F : FnC K "_law_refusals" sRef c f fd) (R : RefFns P w K mg base T C1 C2) (FT : FnP K "_law_told" sTold [] g fdT) (mT : mg "_law_told" = some (.ref g)) (TB : TabB base mg c Pr)
    (hm : (Pr, PySem.Str.ofString "_law_refusals" ++ ".<locals>." ++ "<lambda>") ∈ T) (hu : ∀ p ∈ T, p.1 = Pr → p.2 = PySem.Str.ofString "_law_refusals" ++ ".<locals>." ++ "<lambda>")
    (T1 : PySem.ErrX.OwnTxt P K mg "InvalidStretches" sE1 "at" C1 fI1) (T2 : PySem.ErrX.OwnTxt P K mg "InvalidSize" sE2 "word" C2 fI2)
    (e11 : PySem.W.exmOne K (.ref C1) (.ref C1) = some true) (e21 : PySem.W.exmOne K (.ref C2) (.ref C1) = some false) (e22 : PySem.W.exmOne K (.ref C2) (.ref C2) = some true) :
    FnOk P w K mg base CX0 11 f fd ["_law_box_here", "_law_one", "_law_other", "_law_ticks"] (spRef T) := by
  refine F.ok scRef (fun vs H Q E h => ?_) (fun A outer s H vs Q E hr h => ?_)
  · obtain ⟨p, q1, q2, q3, rs, ss, ts, rfl, _⟩ := h
    rfl
  · obtain ⟨p, q1, q2, q3, rs, ss, ts, rfl, hb, hT, hd1, hd2, hd3, c1, c2, l1, l2, l3, k⟩ := h
    have hP := pss_cons (st_pair (T := T) (E := E) (s := s) (H := H) (outer := outer) (f := f) (c := c) (A := A) hr (by decide) R) (pss_cons (st_list TB hm hu) (pss_cons (st_app1 TB hm hu) (pss_cons (st_app2 TB hm hu) (pss_cons (st_app3 TB hm hu) (pss_cons (st_app4 TB hm hu) (pss_cons (st_app5 TB hm hu) (pss_cons (st_app6 TB hm hu)
        (pss_cons (st_app7 TB hm hu) (pss_cons (st_app8 TB hm hu) (pss_cons (st_app9 TB hm hu) (pss_one (st_ret (k := 0) (PRE := PreX T q1 q2 q3 rs ss ts) hr FT mT T1 T2 e11 e21 e22))))))))))))
    rw [← dRef_all] at hP
    refine ⟨_, hP, ?_⟩
    obtain ⟨a0, b0, c0, hp0⟩ := id hb
    refine ⟨_, rfl, _, rfl, p, q1, rs, rfl, hb, hd1, l1, fun vb db H1 hb1 S1 dvb nb pb => ⟨_, rfl, 1, rfl, (by show 4 ≤ sizeLine; decide), fun l hl => ?_⟩⟩
    obtain ⟨a1, b1, c1', hp1⟩ := id hb1
    have Sl := Same.new (o := .lst [.int (-1), .non, .bl true, .str "a"]) hl
    refine ⟨p, l, _, rfl, ⟨a1, b1, c1', Sl _ _ hp1⟩, upd_same, (ne_of_none hp1 hl).symm, (by simp), (by simp), fun i vn a b c' hv => ⟨(by show 2 ≤ sizeLine; decide), fun t ht => ?_⟩⟩
    obtain ⟨dn, dvn, n1, n2⟩ := pick4 hv
    have St := Same.new (o := .tup [vb, vn]) ht
    refine ⟨t, _, rfl, SqT.of upd_same, rfl, _, _, rfl, _, _, rfl, rfl, ?_⟩
    generalize hG : upd (upd (upd H1 l (.lst [.int (-1), .non, .bl true, .str "a"])) p (.lst [.int a, .int b, .int c'])) t (.tup [vb, vn]) = G0
    have SO : Same (off p H) (off p G0) := by
      have h2 := off_mono (p := p) Sl
      have h3 := off_mono (p := p) St
      rw [off_upd, hG] at h3
      exact (S1.trans h2).trans h3
    have SO1 : Same (off p H1) (off p G0) := by
      have h2 := off_mono (p := p) Sl
      have h3 := off_mono (p := p) St
      rw [off_upd, hG] at h3
      exact h2.trans h3
    have hpG : G0 p = some (.lst [.int a, .int b, .int c']) := by rw [← hG]; exact St _ _ upd_same
    have TG : Tabs T G0 := Tabs.ext (Tabs.ext (Tabs.offL hT hp0) SO) off_le
    have D : PreD rs ss ts db dn := ⟨c1, c2, by omega, by omega, l3, nb, pb, n1, n2⟩
    clear hG
    refine ⟨TG, fun f0 k0 H5 o hE hT5 hf hc ho => ⟨(by show 2 ≤ sizeLine; decide), fun u hu => ⟨(by show 2 ≤ sizeLine; decide), fun t0 ht0 => ⟨(by show 1 ≤ sizeLine; decide), fun W hW => ?_⟩⟩⟩⟩
    have Sf := Same.new (o := o) hf
    have Su := Same.new (o := .tup [.str (refKind true), dV (.int 0)]) hu
    have St0 := Same.new (o := .tup [.ref f0, .ref u]) ht0
    have SW := Same.new (o := .lst [.ref t0]) hW
    have SA := Sf.trans (Su.trans (St0.trans SW))
    have st1 : RSt (xRef P w K mg base f c A outer s H E) T G0 W 1 (upd (upd (upd (upd H5 f0 o) u (.tup [.str (refKind true), dV (.int 0)])) t0 (.tup [.ref f0, .ref u])) W (.lst [.ref t0])) := by
      refine ⟨hE.trans (ExtN.of SA), fun o' ho' => ?_, Tabs.ext hT5 SA, [.ref t0], upd_same, rfl, fun i v hv => ?_⟩
      · by_cases hx : ∃ ps, o' = .tbl ps
        · exact hx
        · have h1 := hE _ _ ho' (fun ps z => hx ⟨ps, z⟩)
          have h2 := St0 _ _ (Su _ _ (Sf _ _ h1))
          rw [hW] at h2
          cases h2
      · cases i with
        | succ i => simp at hv
        | zero =>
          refine ⟨true, .int 0, rfl, t0, f0, k0, u, (Option.some.inj hv).symm, SW _ _ upd_same, SW _ _ (St0 _ _ (Su _ _ (by rw [upd_same, ho]))), SW _ _ (St0 _ _ (Su _ _ (Sf _ _ hc))), SW _ _ (St0 _ _ upd_same)⟩
    refine app_lam (n := 1) (b := true) (d := .int 1) rfl rfl st1 fun H2 st2 => ?_
    refine app_lam (n := 2) (b := true) (d := .int (-1)) rfl rfl st2 fun H3 st3 => ?_
    refine app_lam (n := 3) (b := false) (d := .str "tick") rfl rfl st3 fun H4 st4 => ?_
    refine app_lam (n := 4) (b := false) (d := .str "late") rfl rfl st4 fun H5 st5 => ?_
    refine app_lam (n := 5) (b := false) (d := .str "tick") rfl rfl st5 fun H6 st6 => ?_
    refine app_lam (n := 6) (b := false) (d := .str "tick") rfl rfl st6 fun H7 st7 => ?_
    refine app_lam (n := 7) (b := true) (d := .int (-1)) rfl rfl st7 fun H8 st8 => ?_
    refine app_lam (n := 8) (b := true) (d := .int (-1)) rfl rfl st8 fun H9 st9 => ?_
    refine app_lam (n := 9) (b := false) (d := .str "since") rfl rfl st9 fun HX stX => ?_
    obtain ⟨acc, hacc, hal, hit⟩ := stX.it
    have SUB : Sub (off p H) HX := ((Sub.of SO).trans off_sub).trans (Sub.ofN stX.ext)
    have SUB1 : Sub (off p H1) HX := ((Sub.of SO1).trans off_sub).trans (Sub.ofN stX.ext)
    refine ⟨_, rfl, W, acc, rfl, .inl hacc, fun J wk D0 hD0 => ?_⟩
    refine ⟨10, fun i H' => Same HX H' ∧ H' D0 = some (.lst []), ⟨Same.new hD0, upd_same⟩, fun H' q => ⟨?_, ?_⟩, fun i H' hi q => ⟨wk.go i H' (by rw [hacc, q.1 _ _ hacc]) (by rw [hal]; exact hi), fun x H'' yl => ?_⟩⟩
    · have := wk.stop H' (by rw [hacc, q.1 _ _ hacc])
      rw [hal] at this
      exact this
    · refine ⟨Nat.zero_le _, fun M hM => ?_⟩
      have SM := Same.new (o := .lst []) hM
      refine ⟨.list [], .list [], (Dv.lst (SM _ _ q.2) .nil).dp, (Dv.lst upd_same .nil).dp, shaped_nil, shaped_nil, ?_⟩
      have SF := q.1.trans SM
      refine k _ ⟨a, b, c', SF _ _ (stX.ext _ _ hpG (fun _ z => by cases z))⟩ ?_ (Tabs.ext stX.tb SF)
      intro x o' hx hn
      have hxp : x ≠ p := fun z => by rw [z, off_at] at hx; cases hx
      rw [off_ne hxp]
      exact SF _ _ (stX.ext _ _ (off_le _ _ (SO _ _ hx)) hn)
    · obtain ⟨rfl, hx⟩ := wk.yld i H' _ _ (by rw [hacc, q.1 _ _ hacc]) yl
      obtain ⟨bb, d, hs, t1, f1, k1, u1, rfl, h1, h2, h3, h4⟩ := hit i _ hx
      obtain ⟨sh, dvd⟩ := spec_lay hs
      refine ⟨t1, _, rfl, SqT.of (q.1 _ _ h1), rfl, _, _, rfl, _, _, rfl, rfl, rfl, ?_⟩
      refine ⟨_, rfl, f1, k1, _, _, _, _, _, _, refKind bb, rfl, q.1 _ _ h2, q.1 _ _ h3, lrX (vb := vb) (vn := vn) D R hs, ?_, ?_, fun r H2 S2 hr2 => ?_⟩
      · cases bb
        · exact .inr ⟨rfl, rfl, rfl⟩
        · exact .inl ⟨rfl, rfl, rfl⟩
      · exact ⟨vb, vn, db, dn, D, rfl, rfl, rfl, rfl, rfl, Tabs.ext stX.tb q.1, hd1.ext (SUB.trans (Sub.of q.1)), hd2.ext (SUB.trans (Sub.of q.1)), q.1 _ _ (SUB.1 _ _ hd3), dvb.ext (SUB1.trans (Sub.of q.1)), dvn _⟩
      · refine ⟨_, rfl, .tuple [.str (refKind bb), d], .tuple [.str (refKind bb), d], (Dv.tup hr2 (.cons (.str _) (.cons (dvd _) .nil))).dp, (Dv.tup (S2 _ _ (q.1 _ _ h4)) (.cons (.str _) (.cons (dvd _) .nil))).dp, sh, sh, _, rfl, ?_, q.1.trans S2, S2 _ _ q.2⟩
        rw [eqv_self _ (Bool.and_eq_true_iff.mp sh).1]
        rfl
end
end K7
end

section
set_option Elab.async false
set_option linter.all false
set_option maxRecDepth 100000
set_option maxHeartbeats 4000000
/-! Calls by keywords alone; the frame of law. -/
namespace K7
open PySem L2 LamX LamV PySem.Spec PyProof.Rows
structure Fn7K (P : Program) (w : World) (K : PySem.W.Frag) (mg : Str → Option Value) (base : Heap) (CX : CXT) (k : Nat) (x : Str) (ks : List Str) (gV : List V → List V → List V) (sp : Sp) : Prop where
  ex : ∃ (f : Addr) (fd : FuncData) (ps : List Str) (g : List Value → List Value → List Value), FnOk P w K mg base CX k f fd ps sp ∧ mg x = some (.ref f) ∧ PySem.W.keepIn K (.ref f) = true ∧ KBn K fd ps 0 ks g gV
def tCallN0 (m : Nat) (sp : Sp) (gV : List V → List V → List V) (E : XK) (tk : TA) : TE := fun σ H Q => tk σ H fun zs H2 => zs.length = m ∧ sp (gV [] zs) H2 Q E
section
variable {X : Cx} {CX : CXT} {k j : Nat} {x : Str} {ks : List Str} {sp : Sp} {gV : List V → List V → List V} {E : XK} {p pos : Pos} {kws : List Keyword} {tk : TA}
theorem pe_fk (c : Fn7K X.prog X.w X.K X.mg X.base CX k x ks gV sp) (hr : Room j X.A) (hk : k ≤ j) (hg : Gl X x) (hx : Passes CX X E) (hkw : PK X kws tk) (hall : (backToKw pos (keywordEach kws X.env)).all (·.1.isSome) = true := by rfl) (hks : (backToKw pos (keywordEach kws X.env)).filterMap (·.1) = ks := by rfl)
    (hdb : (x == ("__debug__" : Str)) = false := by decide) (hpl : ((backTo pos (starEach [] X.env)).any (·.1) || (backToKw pos (keywordEach kws X.env)).any (·.1.isNone)) = false := by rfl) :
    PE X (.Call (.Name x p) [] kws pos) (tCallN0 ks.length sp gV E tk) := by
  obtain ⟨f, fd, ps, g, F, hm, kp, hb⟩ := c.ex
  refine ⟨fun pins s σ H Q I h => ?_⟩
  refine wpAny_Call_Name_kw (ld_glob I hg hm ?_ hdb)
  refine PySem.W.callWith_KW0 (h₀ := X.base) I.ok.mod.kin kp hall (thn (hkw.run pos pins s σ H _ I h) fun ws s2 ⟨zs, H2, I2, rz, l2, q2⟩ => ⟨I2.kIn, ?_⟩) hpl
  rw [hks]
  exact run_fnN (us := []) (vs := []) F (hr.mono hk) hb hx I2 .nil rz rfl l2 q2
end
/-- a def without defaults, all by keywords -/
theorem kbn_of {K : PySem.W.Frag} {x : Str} {st : Stmt} {f : Addr} {fd : FuncData} {ps ks : List Str} {g : List Value → List Value} {gV : List V → List V} (F : FnP K x st [] f fd)
    (h : ∀ (kV doc pm : Value) (an : Option Addr) (cdv ct : Value) (ws : List Value), ws.length = ks.length → bindArgs (PySem.W.fnOf x x (defArgs st) (defBody st) (defScope st) .none kV doc pm an cdv ct) ⟨[], ks.zip ws⟩ = pure (ps.zip (g ws)))
    (hrel : ∀ {zs : List V} {ws : List Value}, Vals zs ws → Vals (gV zs) (g ws)) : KBn K fd ps 0 ks (fun _ ws => g ws) (fun _ zs => gV zs) := by
  obtain ⟨oc, od, dV, kV, doc, pm, an, cdv, ct, osl, rfl, lk, hcd, hD, hK⟩ := F.ex
  rcases hD with ⟨_, rfl⟩ | ⟨e, _⟩
  · refine ⟨fun s us ws _ l1 l2 => ?_, fun _ r2 => hrel r2⟩
    have : us = [] := List.length_eq_zero_iff.mp l1
    subst this
    exact .of_eq (h kV doc pm an cdv ct ws l2)
  · exact absurd rfl e
theorem vals_rev : ∀ {zs : List V} {ws : List Value}, Vals zs ws → Vals zs.reverse ws.reverse := fun h => h.reverse
/-! ### the frame of law -/
structure LV where
  script : Option V
  k : Option V
  box : Option V
  one : Option V
  other : Option V
  far : Option V
  last : Option V
  late : Option V
  tick : Option V
  has : Option V
  more : Option V
  row : Option V
  rows : Option V
  moved : Option V
  kept : Option V
  name : Option V
  told : Option V
  truths : Option V
  due : Option V
  number : Option V
  at_ : Option V
  ticks : Option V
  turn : Option V
  since : Option V
def LV.st (v : LV) : L2.St := [v.script, v.k, v.box, v.one, v.other, v.far, v.last, v.late, v.tick, v.has, v.more, v.row, v.rows, v.moved, v.kept, v.name, v.told, v.truths, v.due, v.number, v.at_, v.ticks, v.turn, v.since]
abbrev nLaw : List Str := ["_law_script", "_law_k", "_law_box_here", "_law_one", "_law_other", "_law_far", "_law_last", "_law_late", "_law_tick", "_law_has_here", "_law_more", "_law_row", "_law_rows", "_law_moved", "_law_kept", "_law_name", "_law_told_here", "_law_truths", "_law_due", "_law_number", "_law_at", "_law_ticks", "_law_turn", "_law_since"]
theorem ndLaw : nLaw.Nodup := by decide +kernel
theorem scLaw : FnScope nLaw ["_law_script"] (defScope sLaw) := ⟨rfl, rfl, rfl, by decide +kernel, rfl, by decide +kernel, by decide +kernel⟩
abbrev xLaw (P : Program) (w : World) (K : PySem.W.Frag) (mg : Str → Option Value) (base : Heap) (f : Addr) (cdv : Value) (A : Around) (outer : List Env) (s : Shared) (H : Hp) (E : XK) : Cx := cxOf CX0 P w K mg base nLaw "law" (defScope sLaw) f cdv A outer s H E
def dLaw (i : Nat) : Stmt := (defBody sLaw).getD i (.Pass ⟨0, 0, 0, 0⟩)
theorem dLaw_all : defBody sLaw = [dLaw 0, dLaw 1, dLaw 2, dLaw 3, dLaw 4] := by
  unfold dLaw
  rfl
def forBody (st : Stmt) : List Stmt := match st with
  | .For _ _ b _ _ => b
  | _ => []
def dK (i : Nat) : Stmt := (forBody (dLaw 3)).getD i (.Pass ⟨0, 0, 0, 0⟩)
theorem dK_all : forBody (dLaw 3) = [dK 0, dK 1, dK 2, dK 3, dK 4, dK 5, dK 6, dK 7, dK 8, dK 9, dK 10, dK 11, dK 12, dK 13, dK 14, dK 15, dK 16, dK 17, dK 18, dK 19, dK 20, dK 21, dK 22] := by
  unfold dK dLaw
  rfl
/-- all that law calls -/
structure LawFns (P : Program) (w : World) (K : PySem.W.Frag) (mg : Str → Option Value) (base : Heap) (T : List (Addr × Str)) (C1 C2 : Addr) : Prop where
  B : Blt mg
  box : Fn7 P w K mg base CX0 1 "_law_box" (spBox K) []
  take : Fn7 P w K mg base CX0 1 "_law_take" spTake []
  pick : Fn7 P w K mg base CX0 2 "_law_pick" spPick []
  str : Fn7 P w K mg base CX0 3 "_law_stretches" spStretch []
  has : Fn7 P w K mg base CX0 1 "_law_has" spHas []
  rowOf : Fn7 P w K mg base CX0 1 "_law_row_of" spRow []
  ref : Fn7 P w K mg base CX0 11 "_law_refusals" (spRef T) []
  but : Fn7 P w K mg base (L2.CX P w) 4 "free_but" (spBut C2) []
  but1 : Fn7 P w K mg base (L2.CX P w) 4 "free_but" (spBut C2) [.non]
  butK : Fn7K P w K mg base (L2.CX P w) 4 "free_but" ["ticks", "since"] (fun _ zs => zs) (spBut C2)
  both : Fn7 P w K mg base (L2.CX P w) 5 "both_free" (spBoth C1) []
  bothK : Fn7K P w K mg base (L2.CX P w) 5 "both_free" ["other", "one"] (fun _ zs => zs.reverse) (spBoth C1)
  eith : Fn7 P w K mg base (L2.CX P w) 7 "either_free" (spEith T C1) []
  eithK : Fn7K P w K mg base (L2.CX P w) 7 "either_free" ["one", "other"] (fun _ zs => zs) (spEith T C1)
  room : Fn7 P w K mg base (L2.CX P w) 5 "room_at" (spRoom C1 C2) []
  roomK : Fn7K P w K mg base (L2.CX P w) 5 "room_at" ["stretches", "tick"] (fun _ zs => zs) (spRoom C1 C2)
  free : Fn7 P w K mg base (L2.CX P w) 6 "is_free_at" (spFree C1 C2) []
  freeK : Fn7K P w K mg base (L2.CX P w) 6 "is_free_at" ["stretches", "tick"] (fun _ zs => zs) (spFree C1 C2)
  short : Fn7 P w K mg base (L2.CX P w) 5 "shorten_ends" (spShort C1 C2) []
  shortK : Fn7K P w K mg base (L2.CX P w) 5 "shorten_ends" ["stretches", "late"] (fun _ zs => zs) (spShort C1 C2)
theorem passN {X : Cx} : Passes (L2.CX X.prog X.w) X E0 := passes_call L2.takes0 fun _ _ _ _ h => h
end K7
end

section
set_option Elab.async false
set_option linter.all false
set_option maxRecDepth 100000
set_option maxHeartbeats 4000000
/-! The plain laws of rows: uniqueness, both, move, bounds. -/
namespace K7
theorem has1_iff {r : Row} {t : Int} : has1 r t = true ↔ r.1 ≤ t ∧ ∀ e, r.2 = some e → t < e := by
  obtain ⟨b, e⟩ := r
  unfold has1
  cases e with
  | none => simp
  | some e => simp
theorem mem_iff {rs : List Row} {t : Int} : memR rs t = true ↔ ∃ r ∈ rs, has1 r t = true := by
  unfold memR
  rw [List.any_eq_true]
theorem memR_cons (r : Row) (rs : List Row) (t : Int) : memR (r :: rs) t = (has1 r t || memR rs t) := rfl
theorem memR_append (rs ss : List Row) (t : Int) : memR (rs ++ ss) t = (memR rs t || memR ss t) := List.any_append
theorem mem_low {rs : List Row} {c t : Int} (h : ∀ r ∈ rs, c < r.1) (ht : t ≤ c) : memR rs t = false := by
  cases e : memR rs t with
  | false => rfl
  | true =>
    obtain ⟨r, hr, h1⟩ := mem_iff.mp e
    have := (has1_iff.mp h1).1
    have := h r hr
    omega
theorem mem_high {rs : List Row} {c t : Int} (h : ∀ r ∈ rs, ∃ e, r.2 = some e ∧ e ≤ c) (ht : c ≤ t) : memR rs t = false := by
  cases e : memR rs t with
  | false => rfl
  | true =>
    obtain ⟨r, hr, h1⟩ := mem_iff.mp e
    obtain ⟨e, he, hc⟩ := h r hr
    have := (has1_iff.mp h1).2 e he
    omega
theorem Canon.tail {r : Row} {rs : List Row} (c : Canon (r :: rs)) : Canon rs := ⟨fun s hs => c.pos s (by simp [hs]), (List.pairwise_cons.mp c.gaps).2⟩
theorem Canon.head {r : Row} {rs : List Row} (c : Canon (r :: rs)) : has1 r r.1 = true := has1_iff.mpr ⟨Int.le_refl _, (c.pos r (by simp)).2⟩
theorem Canon.above {r : Row} {rs : List Row} (c : Canon (r :: rs)) : ∀ s ∈ rs, r.1 < s.1 := fun s hs => by
  obtain ⟨x, hx, hlt⟩ := (List.pairwise_cons.mp c.gaps).1 s hs
  have := (c.pos r (by simp)).2 x hx
  omega
theorem Canon.aboveE {r : Row} {rs : List Row} (c : Canon (r :: rs)) {e : Int} (h : r.2 = some e) : ∀ s ∈ rs, e < s.1 := fun s hs => by
  obtain ⟨x, hx, hlt⟩ := (List.pairwise_cons.mp c.gaps).1 s hs
  rw [h] at hx
  cases hx
  exact hlt
theorem Canon.noneNil {r : Row} {rs : List Row} (c : Canon (r :: rs)) (h : r.2 = none) : rs = [] := by
  cases rs with
  | nil => rfl
  | cons s rs =>
    obtain ⟨x, hx, _⟩ := (List.pairwise_cons.mp c.gaps).1 s (by simp)
    rw [h] at hx
    cases hx
theorem has1_end {r : Row} {e : Int} (h : r.2 = some e) : has1 r e = false := by
  cases q : has1 r e with
  | false => rfl
  | true =>
    have := (has1_iff.mp q).2 e h
    omega
/-- a canonical list is what its ticks say -/
theorem canon_uniq : ∀ {rs ss : List Row}, Canon rs → Canon ss → (∀ t, memR rs t = memR ss t) → rs = ss
  | [], [], _, _, _ => rfl
  | [], s :: ss, _, c2, h => by
    have := h s.1
    rw [memR_cons, c2.head] at this
    cases this
  | r :: rs, [], c1, _, h => by
    have := h r.1
    rw [memR_cons, c1.head] at this
    cases this
  | r :: rs, s :: ss, c1, c2, h => by
    have st : ∀ {r s : Row} {rs ss : List Row}, Canon (r :: rs) → Canon (s :: ss) → (∀ t, memR (r :: rs) t = memR (s :: ss) t) → s.1 ≤ r.1 := fun {r s rs ss} c1 c2 h => by
      have e := h r.1
      rw [memR_cons, c1.head, Bool.true_or] at e
      obtain ⟨x, hx, h1⟩ := mem_iff.mp e.symm
      have h2 := (has1_iff.mp h1).1
      rcases List.mem_cons.mp hx with rfl | hx
      · exact h2
      · have := c2.above x hx
        omega
    have e1 : r.1 = s.1 := Int.le_antisymm (st c2 c1 fun t => (h t).symm) (st c1 c2 h)
    -- the ends
    have en : ∀ {r s : Row} {rs ss : List Row}, Canon (r :: rs) → Canon (s :: ss) → (∀ t, memR (r :: rs) t = memR (s :: ss) t) → r.1 = s.1 → ∀ e, r.2 = some e → ∃ e', s.2 = some e' ∧ e' ≤ e := fun {r s rs ss} c1 c2 h e1 e he => by
      have lt := (c1.pos r (by simp)).2 e he
      have e2 := h e
      rw [memR_cons, has1_end he, mem_low (c1.aboveE he) (Int.le_refl _), memR_cons] at e2
      have e3 : has1 s e = false := by
        cases q : has1 s e with
        | false => rfl
        | true => rw [q] at e2; cases e2
      cases hs : s.2 with
      | none =>
        have : has1 s e = true := has1_iff.mpr ⟨by omega, fun x hx => by rw [hs] at hx; cases hx⟩
        rw [e3] at this
        cases this
      | some e' =>
        refine ⟨e', rfl, ?_⟩
        by_cases hle : e' ≤ e
        · exact hle
        · have : has1 s e = true := has1_iff.mpr ⟨by omega, fun x hx => by rw [hs] at hx; cases hx; omega⟩
          rw [e3] at this
          cases this
    have e2 : r.2 = s.2 := by
      cases hr : r.2 with
      | none =>
        cases hs : s.2 with
        | none => rfl
        | some e =>
          obtain ⟨x, hx, _⟩ := en c2 c1 (fun t => (h t).symm) e1.symm e hs
          rw [hr] at hx
          cases hx
      | some e =>
        obtain ⟨x, hx, h1⟩ := en c1 c2 h e1 e hr
        obtain ⟨y, hy, h2⟩ := en c2 c1 (fun t => (h t).symm) e1.symm x hx
        rw [hr] at hy
        cases hy
        rw [hx]
        congr 1
        omega
    have ers : r = s := Prod.ext e1 e2
    subst ers
    congr 1
    refine canon_uniq c1.tail c2.tail fun t => ?_
    have ht := h t
    rw [memR_cons, memR_cons] at ht
    cases q : has1 r t with
    | false =>
      rw [q] at ht
      exact ht
    | true =>
      have h3 := has1_iff.mp q
      cases hr : r.2 with
      | none => rw [c1.noneNil hr, c2.noneNil hr]
      | some e =>
        have h4 := h3.2 e hr
        rw [mem_low (c1.aboveE hr) (by omega), mem_low (c2.aboveE hr) (by omega)]
/-! ### both -/
theorem maxI_le {i j : Int} : i ≤ maxI i j ∧ j ≤ maxI i j := by
  unfold maxI
  split <;> omega
theorem maxI_lt {i j k : Int} : maxI i j ≤ k ↔ i ≤ k ∧ j ≤ k := by
  unfold maxI
  split <;> omega
theorem below_iff {o : Option Int} {t : Int} : below o t = true ↔ ∀ e, o = some e → t < e := by
  unfold below
  cases o with
  | none => simp
  | some e => simp
theorem lesser_iff {a b : Option Int} {t : Int} : (∀ e, lesser a b = some e → t < e) ↔ (∀ e, a = some e → t < e) ∧ ∀ e, b = some e → t < e := by
  cases a with
  | none => simp [lesser]
  | some i =>
    cases b with
    | none => simp [lesser]
    | some j =>
      simp only [lesser, Option.some.injEq, forall_eq']
      split <;> omega
theorem lesser_le {a b : Option Int} {e : Int} (h : a = some e ∨ b = some e) : ∃ x, lesser a b = some x ∧ x ≤ e := by
  cases a with
  | none =>
    rcases h with h | h
    · cases h
    · exact ⟨e, h, Int.le_refl _⟩
  | some i =>
    cases b with
    | none =>
      rcases h with h | h
      · exact ⟨e, h, Int.le_refl _⟩
      · cases h
    | some j =>
      refine ⟨_, rfl, ?_⟩
      rcases h with h | h <;> cases h <;> split <;> omega
theorem inter_mem (r s : Row) (t : Int) : memR (inter r s) t = (has1 r t && has1 s t) := by
  have key : has1 (maxI r.1 s.1, lesser r.2 s.2) t = (has1 r t && has1 s t) := by
    rw [Bool.eq_iff_iff, Bool.and_eq_true, has1_iff, has1_iff, has1_iff]
    simp only
    rw [maxI_lt, lesser_iff]
    constructor
    · rintro ⟨⟨a, b⟩, c, d⟩
      exact ⟨⟨a, c⟩, b, d⟩
    · rintro ⟨⟨a, c⟩, b, d⟩
      exact ⟨⟨a, b⟩, c, d⟩
  unfold inter
  by_cases h : below (lesser r.2 s.2) (maxI r.1 s.1) = true
  · rw [if_pos h, memR_cons, key]
    simp [memR]
  · rw [if_neg h, ← key]
    cases q : has1 (maxI r.1 s.1, lesser r.2 s.2) t with
    | false => rfl
    | true =>
      exfalso
      obtain ⟨h1, h2⟩ := has1_iff.mp q
      refine h (below_iff.mpr fun e he => ?_)
      have := h2 e he
      simp only at h1
      omega
theorem memR_flat (f : Row → List Row) : ∀ (l : List Row) (t : Int), memR (l.flatMap f) t = l.any fun x => memR (f x) t
  | [], _ => rfl
  | x :: l, t => by rw [List.flatMap_cons, memR_append, memR_flat f l, List.any_cons]
theorem any_and (p : Bool) (f : Row → Bool) : ∀ l : List Row, (l.any fun x => p && f x) = (p && l.any f)
  | [] => by simp
  | x :: l => by rw [List.any_cons, List.any_cons, any_and p f l]; cases p <;> simp
theorem any_and2 (p : Bool) (f : Row → Bool) : ∀ l : List Row, (l.any fun x => f x && p) = (l.any f && p)
  | [] => by simp
  | x :: l => by rw [List.any_cons, List.any_cons, any_and2 p f l]; cases p <;> simp
theorem both_mem (rs ss : List Row) (t : Int) : memR (bothRows rs ss) t = (memR rs t && memR ss t) := by
  unfold bothRows
  rw [memR_flat]
  have : ∀ r, memR (inters ss r) t = (has1 r t && memR ss t) := fun r => by
    unfold inters
    rw [memR_flat]
    simp only [inter_mem]
    exact any_and _ _ _
  simp only [this]
  exact any_and2 _ _ _
theorem inter_shape {r s x : Row} (h : x ∈ inter r s) : x = (maxI r.1 s.1, lesser r.2 s.2) ∧ below (lesser r.2 s.2) (maxI r.1 s.1) = true := by
  unfold inter at h
  split at h
  · rename_i hb
    exact ⟨by simpa using h, hb⟩
  · simp at h
theorem both_canon {rs ss : List Row} (c1 : Canon rs) (c2 : Canon ss) : Canon (bothRows rs ss) := by
  refine ⟨fun x hx => ?_, ?_⟩
  · obtain ⟨r, hr, hx⟩ := List.mem_flatMap.mp hx
    obtain ⟨s, hs, hx⟩ := List.mem_flatMap.mp hx
    obtain ⟨rfl, hb⟩ := inter_shape hx
    have := (c1.pos r hr).1
    have := (maxI_le (i := r.1) (j := s.1)).1
    exact ⟨by simp only; omega, below_iff.mp hb⟩
  · unfold bothRows
    rw [List.pairwise_flatMap]
    refine ⟨fun r hr => ?_, c1.gaps.imp fun {r r'} hg x hx y hy => ?_⟩
    · unfold inters
      rw [List.pairwise_flatMap]
      refine ⟨fun s hs => ?_, c2.gaps.imp fun {s s'} hg x hx y hy => ?_⟩
      · unfold inter
        split
        · exact List.pairwise_singleton _ _
        · exact List.Pairwise.nil
      · obtain ⟨rfl, _⟩ := inter_shape hx
        obtain ⟨rfl, _⟩ := inter_shape hy
        obtain ⟨e, he, hlt⟩ := hg
        obtain ⟨z, hz, hle⟩ := lesser_le (a := r.2) (b := s.2) (.inr he)
        have := (maxI_le (i := r.1) (j := s'.1)).2
        exact ⟨z, hz, by simp only; omega⟩
    · obtain ⟨s, _, hx⟩ := List.mem_flatMap.mp hx
      obtain ⟨s', _, hy⟩ := List.mem_flatMap.mp hy
      obtain ⟨rfl, _⟩ := inter_shape hx
      obtain ⟨rfl, _⟩ := inter_shape hy
      obtain ⟨e, he, hlt⟩ := hg
      obtain ⟨z, hz, hle⟩ := lesser_le (a := r.2) (b := s.2) (.inl he)
      have := (maxI_le (i := r'.1) (j := s'.1)).1
      exact ⟨z, hz, by simp only; omega⟩
/-! ### moved rows, bounded rows -/
def moveR (f : Int) (r : Row) : Row := (r.1 + f, r.2.map fun e => e + f)
def move (f : Int) (rs : List Row) : List Row := rs.map (moveR f)
theorem has1_move (f : Int) (r : Row) (t : Int) : has1 (moveR f r) t = has1 r (t - f) := by
  rw [Bool.eq_iff_iff, has1_iff, has1_iff]
  obtain ⟨b, e⟩ := r
  cases e with
  | none => simp [moveR]; omega
  | some e => simp [moveR]; omega
theorem move_mem (f : Int) (rs : List Row) (t : Int) : memR (move f rs) t = memR rs (t - f) := by
  unfold move memR
  rw [List.any_map]
  congr 1
  funext r
  exact has1_move f r t
theorem move_canon {f : Int} {rs : List Row} (hf : 0 ≤ f) (c : Canon rs) : Canon (move f rs) := by
  refine ⟨fun x hx => ?_, ?_⟩
  · obtain ⟨r, hr, rfl⟩ := List.mem_map.mp hx
    obtain ⟨h1, h2⟩ := c.pos r hr
    refine ⟨by simp only [moveR]; omega, fun e he => ?_⟩
    cases hr2 : r.2 with
    | none => simp [moveR, hr2] at he
    | some x =>
      have := h2 x hr2
      simp [moveR, hr2] at he ⊢
      omega
  · unfold move
    rw [List.pairwise_map]
    refine c.gaps.imp fun {r s} hg => ?_
    obtain ⟨x, hx, hlt⟩ := hg
    exact ⟨x + f, by simp [moveR, hx], by simp only [moveR]; omega⟩
theorem bd_mem {n t : Int} {rs : List Row} (h : Bd n rs) (ht : n ≤ t) : memR rs t = memR rs n := by
  unfold memR
  rw [Bool.eq_iff_iff, List.any_eq_true, List.any_eq_true]
  have key : ∀ r ∈ rs, (has1 r t = true ↔ has1 r n = true) := fun r hr => by
    obtain ⟨h1, h2⟩ := h r hr
    rw [has1_iff, has1_iff]
    constructor
    · rintro ⟨_, k⟩
      refine ⟨h1, fun e he => ?_⟩
      have := k e he
      have := h2 e he
      omega
    · rintro ⟨_, k⟩
      refine ⟨by omega, fun e he => ?_⟩
      have := k e he
      have := h2 e he
      omega
  constructor
  · rintro ⟨r, hr, h3⟩
    exact ⟨r, hr, (key r hr).mp h3⟩
  · rintro ⟨r, hr, h3⟩
    exact ⟨r, hr, (key r hr).mpr h3⟩
theorem canon_neg {rs : List Row} (c : Canon rs) {t : Int} (ht : t < 0) : memR rs t = false := mem_low (c := -1) (fun r hr => by have := (c.pos r hr).1; omega) (by omega)
end K7
end

section
set_option Elab.async false
set_option linter.all false
set_option maxRecDepth 100000
set_option maxHeartbeats 4000000
/-! The plain laws of rows: either, shorten. -/
namespace K7
theorem reach_iff {o : Option Int} {b : Int} : reach o b = true ↔ ∀ e, o = some e → b ≤ e := by
  unfold reach
  cases o with
  | none => simp
  | some e => simp
theorem join_iff {a b : Option Int} {t : Int} : (∀ e, joinE a b = some e → t < e) ↔ (∀ e, a = some e → t < e) ∨ ∀ e, b = some e → t < e := by
  cases a with
  | none => simp [joinE]
  | some i =>
    cases b with
    | none => simp [joinE]
    | some j =>
      simp only [joinE, Option.some.injEq, forall_eq', maxI]
      split <;> omega
/-- what stands after a sorted part is merged -/
structure EInv (acc done : List Row) : Prop where
  can : Canon acc
  mem : ∀ t, memR acc t = memR done t
  st : ∀ x ∈ acc, ∃ y ∈ done, x.1 ≤ y.1
theorem EInv.step {acc done : List Row} {r : Row} (I : EInv acc done) (hr : 0 ≤ r.1 ∧ ∀ e, r.2 = some e → r.1 < e) (hs : ∀ y ∈ done, y.1 ≤ r.1) : EInv (eithStep acc r) (done ++ [r]) := by
  have single : ∀ t, memR [r] t = has1 r t := fun t => by rw [memR_cons]; simp [memR]
  have app : (∀ x ∈ acc, gap x r) → EInv (acc ++ [r]) (done ++ [r]) := fun hg => by
    refine ⟨⟨fun x hx => ?_, ?_⟩, fun t => by rw [memR_append, memR_append, I.mem], fun x hx => ?_⟩
    · rcases List.mem_append.mp hx with hx | hx
      · exact I.can.pos x hx
      · rw [List.mem_singleton.mp hx]
        exact hr
    · rw [List.pairwise_append]
      exact ⟨I.can.gaps, List.pairwise_singleton _ _, fun a ha b hb => by rw [List.mem_singleton.mp hb]; exact hg a ha⟩
    · rcases List.mem_append.mp hx with hx | hx
      · obtain ⟨y, hy, h⟩ := I.st x hx
        exact ⟨y, List.mem_append_left _ hy, h⟩
      · rw [List.mem_singleton.mp hx]
        exact ⟨r, by simp, Int.le_refl _⟩
  rcases List.eq_nil_or_concat acc with e | ⟨init, a, e⟩
  · have e1 : eithStep acc r = acc ++ [r] := by rw [e]; rfl
    rw [e1]
    exact app fun x hx => by rw [e] at hx; simp at hx
  · rw [List.concat_eq_append] at e
    have hgl : acc.getLast? = some a := by rw [e]; simp
    have hla : a ∈ acc := by rw [e]; simp
    obtain ⟨y, hy, hay⟩ := I.st a hla
    have har : a.1 ≤ r.1 := Int.le_trans hay (hs y hy)
    have hgaps := I.can.gaps
    rw [e, List.pairwise_append] at hgaps
    unfold eithStep
    rw [hgl]
    simp only
    by_cases hz : reach a.2 r.1 = true
    · rw [if_pos hz]
      have hz' := reach_iff.mp hz
      have ed : acc.dropLast = init := by rw [e, List.dropLast_concat]
      rw [ed]
      have hm : ∀ t, has1 (a.1, joinE a.2 r.2) t = (has1 a t || has1 r t) := fun t => by
        rw [Bool.eq_iff_iff, Bool.or_eq_true, has1_iff, has1_iff, has1_iff]
        simp only
        rw [join_iff]
        constructor
        · rintro ⟨h1, h2 | h2⟩
          · exact .inl ⟨h1, h2⟩
          · by_cases h3 : r.1 ≤ t
            · exact .inr ⟨h3, h2⟩
            · exact .inl ⟨h1, fun x hx => by have := hz' x hx; omega⟩
        · rintro (⟨h1, h2⟩ | ⟨h1, h2⟩)
          · exact ⟨h1, .inl h2⟩
          · exact ⟨by omega, .inr h2⟩
      have hjoin : ∀ x, joinE a.2 r.2 = some x → a.1 < x := join_iff.mpr (.inl (I.can.pos a hla).2)
      refine ⟨⟨fun x hx => ?_, ?_⟩, fun t => ?_, fun x hx => ?_⟩
      · rcases List.mem_append.mp hx with hx | hx
        · exact I.can.pos x (by rw [e]; exact List.mem_append_left _ hx)
        · rw [List.mem_singleton.mp hx]
          exact ⟨(I.can.pos a hla).1, hjoin⟩
      · rw [List.pairwise_append]
        exact ⟨hgaps.1, List.pairwise_singleton _ _, fun x hx z hz => by rw [List.mem_singleton.mp hz]; exact hgaps.2.2 x hx a (by simp)⟩
      · rw [memR_append, memR_append, ← I.mem t, single, e, memR_append, memR_cons, memR_cons, hm]
        simp [memR, Bool.or_assoc]
      · rcases List.mem_append.mp hx with hx | hx
        · obtain ⟨y, hy, h⟩ := I.st x (by rw [e]; exact List.mem_append_left _ hx)
          exact ⟨y, List.mem_append_left _ hy, h⟩
        · rw [List.mem_singleton.mp hx]
          exact ⟨y, List.mem_append_left _ hy, hay⟩
    · rw [if_neg hz]
      obtain ⟨x, hx, hlt⟩ : ∃ x, a.2 = some x ∧ x < r.1 := by
        cases h : a.2 with
        | none => exact absurd (reach_iff.mpr fun e he => by rw [h] at he; cases he) hz
        | some x =>
          refine ⟨x, rfl, ?_⟩
          by_cases hle : r.1 ≤ x
          · exact absurd (reach_iff.mpr fun e he => by rw [h] at he; cases he; exact hle) hz
          · omega
      refine app fun b hb => ?_
      rw [e] at hb
      rcases List.mem_append.mp hb with hb | hb
      · obtain ⟨z, hz1, hz2⟩ := hgaps.2.2 b hb a (by simp)
        exact ⟨z, hz1, by omega⟩
      · rw [List.mem_singleton.mp hb]
        exact ⟨x, hx, hlt⟩
theorem eith_inv : ∀ (ms acc done : List Row), EInv acc done → (∀ r ∈ ms, 0 ≤ r.1 ∧ ∀ e, r.2 = some e → r.1 < e) → (done ++ ms).Pairwise (fun r s => r.1 ≤ s.1) → EInv (ms.foldl eithStep acc) (done ++ ms)
  | [], acc, done, I, _, _ => by rw [List.append_nil]; exact I
  | r :: ms, acc, done, I, h, hp => by
    have e : done ++ r :: ms = (done ++ [r]) ++ ms := by simp
    rw [List.foldl_cons, e]
    refine eith_inv ms _ _ (I.step (h r (by simp)) fun y hy => ?_) (fun s hs => h s (by simp [hs])) (by rw [← e]; exact hp)
    rw [List.pairwise_append] at hp
    exact hp.2.2 y hy r (by simp)
theorem eith_law {rs ss ms : List Row} (c1 : Canon rs) (c2 : Canon ss) (hp : ms.Perm (rs ++ ss)) (hs : ms.Pairwise fun r s => r.1 ≤ s.1) : Canon (eithRows ms) ∧ ∀ t, memR (eithRows ms) t = (memR rs t || memR ss t) := by
  have I := eith_inv ms [] [] ⟨⟨fun r hr => by simp at hr, List.Pairwise.nil⟩, fun _ => rfl, fun x hx => by simp at hx⟩ (fun r hr => ?_) (by rw [List.nil_append]; exact hs)
  · refine ⟨I.can, fun t => ?_⟩
    have := I.mem t
    rw [List.nil_append] at this
    unfold eithRows
    rw [this, ← memR_append]
    unfold memR
    rw [Bool.eq_iff_iff, List.any_eq_true, List.any_eq_true]
    exact ⟨fun ⟨x, hx, h⟩ => ⟨x, hp.mem_iff.mp hx, h⟩, fun ⟨x, hx, h⟩ => ⟨x, hp.mem_iff.mpr hx, h⟩⟩
  · rcases List.mem_append.mp (hp.mem_iff.mp hr) with h | h
    · exact c1.pos r h
    · exact c2.pos r h
/-! ### shorten -/
theorem short_mem (rs : List Row) (l t : Int) : memR (shortRows rs l) t = memR (rs.map (cutR l)) t := by
  unfold shortRows memR
  rw [List.any_filter]
  congr 1
  funext r
  cases h : has1 r t with
  | false => simp
  | true =>
    have h2 := has1_iff.mp h
    have : goodR r = true := below_iff.mpr fun e he => by have := h2.2 e he; omega
    rw [this]
    rfl
theorem short_canon {rs : List Row} {l : Int} (c : Canon rs) (hl : 0 ≤ l) : Canon (shortRows rs l) := by
  refine ⟨fun x hx => ?_, ?_⟩
  · unfold shortRows at hx
    obtain ⟨h1, h2⟩ := List.mem_filter.mp hx
    obtain ⟨r, hr, rfl⟩ := List.mem_map.mp h1
    exact ⟨(c.pos r hr).1, below_iff.mp h2⟩
  · unfold shortRows
    refine List.Pairwise.filter _ ?_
    rw [List.pairwise_map]
    refine c.gaps.imp fun {r s} hg => ?_
    obtain ⟨x, hx, hlt⟩ := hg
    exact ⟨x - l, by simp [cutR, hx], by simp only [cutR]; omega⟩
end K7
end

section
set_option Elab.async false
set_option linter.all false
set_option maxRecDepth 100000
set_option maxHeartbeats 4000000
/-! The plain laws of rows: all ticks but some; the rows of truths. -/
namespace K7
structure BInv (since : Option Int) (p : List Row × Int) (pre : List Int) : Prop where
  pos : 0 ≤ p.2
  can : Canon p.1
  ends : ∀ r ∈ p.1, ∃ e, r.2 = some e ∧ e < p.2
  mem : ∀ t, t < p.2 → memR p.1 t = (decide (0 ≤ t) && !decide (t ∈ pre))
  low : ∀ t, t < p.2 → 0 ≤ t → below since t = true
  seen : ∀ t ∈ pre, t < p.2 ∨ below since t = false
  last : p.2 = 0 ∨ p.2 - 1 ∈ pre
theorem below_mono {o : Option Int} {s t : Int} (h : below o t = true) (hs : s ≤ t) : below o s = true := below_iff.mpr fun e he => by have := below_iff.mp h e he; omega
theorem row_single (r : Row) (t : Int) : memR [r] t = has1 r t := by rw [memR_cons]; simp [memR]
theorem Canon.snocR {acc : List Row} {b : Int} {o : Option Int} (c : Canon acc) (h1 : 0 ≤ b) (h2 : ∀ e, o = some e → b < e) (h3 : ∀ r ∈ acc, ∃ e, r.2 = some e ∧ e < b) : Canon (acc ++ [(b, o)]) := by
  refine ⟨fun x hx => ?_, ?_⟩
  · rcases List.mem_append.mp hx with hx | hx
    · exact c.pos x hx
    · rw [List.mem_singleton.mp hx]
      exact ⟨h1, h2⟩
  · rw [List.pairwise_append]
    refine ⟨c.gaps, List.pairwise_singleton _ _, fun a ha z hz => ?_⟩
    rw [List.mem_singleton.mp hz]
    exact h3 a ha
theorem BInv.step {since : Option Int} {p : List Row × Int} {pre : List Int} {t : Int} (I : BInv since p pre) (h0 : 0 ≤ t) (hlt : ∀ s ∈ pre, s < t) : BInv since (butStep since p t) (pre ++ [t]) := by
  obtain ⟨acc, b⟩ := p
  have hbt : b ≤ t := by
    rcases I.last with h | h
    · simp only at h; omega
    · have := hlt _ h
      simp only at this; omega
  unfold butStep
  by_cases hz : below since t = true
  · rw [if_pos hz]
    have hpre : ∀ u, b ≤ u → u ≤ t → u ∉ pre := fun u h1 h2 hm => by
      rcases I.seen u hm with h | h
      · simp only at h; omega
      · rw [below_mono hz h2] at h; cases h
    have hmt : ∀ u, (u ∈ pre ++ [t]) ↔ u ∈ pre ∨ u = t := fun u => by simp
    have hi : ∀ u, b ≤ u → memR acc u = false := fun u hu => mem_high (c := b) (fun r hr => by obtain ⟨e, h1, h2⟩ := I.ends r hr; exact ⟨e, h1, Int.le_of_lt h2⟩) hu
    by_cases hb : b < t
    · simp only [if_pos hb]
      refine ⟨by simp only; omega, I.can.snocR I.pos (fun e he => by cases he; exact hb) I.ends, fun r hr => ?_, fun u hu => ?_, fun u hu _ => below_mono hz (by simp only at hu; omega), fun u hu => ?_, .inr (by simp)⟩
      · rcases List.mem_append.mp hr with hr | hr
        · obtain ⟨e, h1, h2⟩ := I.ends r hr
          exact ⟨e, h1, by simp only at h2 ⊢; omega⟩
        · rw [List.mem_singleton.mp hr]
          exact ⟨t, rfl, by simp only; omega⟩
      · simp only at hu
        rw [memR_append, row_single]
        by_cases hub : u < b
        · have h1 : has1 (b, some t) u = false := by
            cases q : has1 (b, some t) u with
            | false => rfl
            | true => have := (has1_iff.mp q).1; simp only at this; omega
          rw [I.mem u hub, h1, Bool.or_false]
          have : decide (u ∈ pre ++ [t]) = decide (u ∈ pre) := by
            rw [Bool.eq_iff_iff, decide_eq_true_iff, decide_eq_true_iff, hmt]
            exact ⟨fun h => h.elim id fun h => by omega, .inl⟩
          rw [this]
        · rw [hi u (by omega), Bool.false_or]
          have hu0 : decide (0 ≤ u) = true := decide_eq_true (by have := I.pos; simp only at this; omega)
          rw [hu0, Bool.true_and]
          by_cases hut : u = t
          · have h1 : has1 (b, some t) u = false := by rw [hut]; exact has1_end rfl
            rw [h1, decide_eq_true ((hmt u).mpr (.inr hut))]
            rfl
          · have h1 : has1 (b, some t) u = true := has1_iff.mpr ⟨by simp only; omega, fun e he => by cases he; omega⟩
            have h2 : u ∉ pre ++ [t] := fun h => ((hmt u).mp h).elim (hpre u (by omega) (by omega)) hut
            rw [h1, decide_eq_false h2]
            rfl
      · rcases (hmt u).mp hu with h | h
        · rcases I.seen u h with h | h
          · exact .inl (by simp only at h ⊢; omega)
          · exact .inr h
        · exact .inl (by simp only; omega)
    · simp only [if_neg hb]
      have ebt : b = t := by omega
      subst ebt
      refine ⟨by simp only; omega, I.can, fun r hr => ?_, fun u hu => ?_, fun u hu _ => below_mono hz (by simp only at hu; omega), fun u hu => ?_, .inr (by simp)⟩
      · obtain ⟨e, h1, h2⟩ := I.ends r hr
        exact ⟨e, h1, by simp only at h2 ⊢; omega⟩
      · simp only at hu
        by_cases hub : u < b
        · rw [I.mem u hub]
          have : decide (u ∈ pre ++ [b]) = decide (u ∈ pre) := by
            rw [Bool.eq_iff_iff, decide_eq_true_iff, decide_eq_true_iff, hmt]
            exact ⟨fun h => h.elim id fun h => by omega, .inl⟩
          rw [this]
        · have : u = b := by omega
          subst this
          rw [hi u (Int.le_refl _), decide_eq_true ((hmt u).mpr (.inr rfl))]
          simp
      · rcases (hmt u).mp hu with h | h
        · rcases I.seen u h with h | h
          · exact .inl (by simp only at h ⊢; omega)
          · exact .inr h
        · exact .inl (by simp only; omega)
  · rw [if_neg hz]
    have hz' : below since t = false := by simpa using hz
    refine ⟨I.pos, I.can, I.ends, fun u hu => ?_, I.low, fun u hu => ?_, I.last.imp id fun h => List.mem_append_left _ h⟩
    · rw [I.mem u hu]
      have : decide (u ∈ pre ++ [t]) = decide (u ∈ pre) := by
        rw [Bool.eq_iff_iff, decide_eq_true_iff, decide_eq_true_iff, List.mem_append, List.mem_singleton]
        exact ⟨fun h => h.elim id fun h => by simp only at hu; omega, .inl⟩
      rw [this]
    · rcases List.mem_append.mp hu with h | h
      · exact I.seen u h
      · rw [List.mem_singleton.mp h]
        exact .inr hz'
theorem but_inv (since : Option Int) : ∀ (ms pre : List Int) (p : List Row × Int), BInv since p pre → (∀ t ∈ ms, 0 ≤ t) → (pre ++ ms).Pairwise (· < ·) → BInv since (ms.foldl (butStep since) p) (pre ++ ms)
  | [], pre, p, I, _, _ => by rw [List.append_nil]; exact I
  | t :: ms, pre, p, I, h, hp => by
    have e : pre ++ t :: ms = (pre ++ [t]) ++ ms := by simp
    rw [List.foldl_cons, e]
    refine but_inv since ms _ _ (I.step (h t (by simp)) fun s hs => ?_) (fun s hs => h s (by simp [hs])) (by rw [← e]; exact hp)
    rw [List.pairwise_append] at hp
    exact hp.2.2 s hs t (by simp)
theorem but_law {ms : List Int} {since : Option Int} (hs : ms.Pairwise (· < ·)) (h0 : ∀ t ∈ ms, 0 ≤ t) : Canon (butRows ms since) ∧ ∀ t, memR (butRows ms since) t = (decide (0 ≤ t) && (!decide (t ∈ ms) && below since t)) := by
  have I := but_inv since ms [] ([], 0) ⟨Int.le_refl _, ⟨fun r hr => by simp at hr, List.Pairwise.nil⟩, fun r hr => by simp at hr, fun t ht => ?_, fun t ht h => ?_, fun t ht => by simp at ht, .inl rfl⟩ h0 (by rw [List.nil_append]; exact hs)
  rotate_left
  · have : decide (0 ≤ t) = false := decide_eq_false (by simp only at ht; omega)
    rw [this]
    rfl
  · simp only at ht; omega
  rw [List.nil_append] at I
  unfold butRows butFold
  generalize ms.foldl (butStep since) ([], 0) = p at I
  obtain ⟨acc, b⟩ := p
  have hi : ∀ u, b ≤ u → memR acc u = false := fun u hu => mem_high (c := b) (fun r hr => by obtain ⟨e, h1, h2⟩ := I.ends r hr; exact ⟨e, h1, Int.le_of_lt h2⟩) hu
  have lowm : ∀ u, u < b → memR acc u = (decide (0 ≤ u) && (!decide (u ∈ ms) && below since u)) := fun u hu => by
    rw [I.mem u hu]
    by_cases h : 0 ≤ u
    · rw [I.low u hu h, Bool.and_true]
    · rw [decide_eq_false h]
      rfl
  by_cases hz : below since b = true
  · simp only [if_pos hz]
    refine ⟨I.can.snocR I.pos (below_iff.mp hz) I.ends, fun u => ?_⟩
    rw [memR_append, row_single]
    by_cases hub : u < b
    · have h1 : has1 (b, since) u = false := by
        cases q : has1 (b, since) u with
        | false => rfl
        | true => have := (has1_iff.mp q).1; simp only at this; omega
      rw [h1, Bool.or_false, lowm u hub]
    · rw [hi u (by omega), Bool.false_or]
      have hu0 : decide (0 ≤ u) = true := decide_eq_true (by have := I.pos; simp only at this; omega)
      rw [hu0, Bool.true_and]
      have h1 : has1 (b, since) u = below since u := by
        rw [Bool.eq_iff_iff, has1_iff, below_iff]
        exact ⟨fun h => h.2, fun h => ⟨by simp only; omega, h⟩⟩
      rw [h1]
      cases hb : below since u with
      | false => simp
      | true =>
        have h2 : u ∉ ms := fun h => by
          rcases I.seen u h with h | h
          · simp only at h; omega
          · rw [hb] at h; cases h
        rw [decide_eq_false h2]
        rfl
  · simp only [if_neg hz]
    refine ⟨I.can, fun u => ?_⟩
    by_cases hub : u < b
    · exact lowm u hub
    · rw [hi u (by omega)]
      have : below since u = false := by
        cases q : below since u with
        | false => rfl
        | true => exact absurd (below_mono q (by omega)) hz
      rw [this]
      simp
/-! ### the rows of truths -/
structure RInv (T : List Bool) (i : Nat) (p : List Row × Option Int) : Prop where
  can : Canon p.1
  ends : ∀ r ∈ p.1, ∃ e, r.2 = some e ∧ e < (i : Int) ∧ ∀ b, p.2 = some b → e < b
  start : ∀ b, p.2 = some b → 0 ≤ b ∧ b < (i : Int)
  mem : ∀ t : Int, t < i → (memR p.1 t || (match p.2 with | none => false | some b => decide (b ≤ t))) = (decide (0 ≤ t) && T.getD t.toNat false)
  last : ∀ j : Nat, i = j + 1 → p.2.isSome = T.getD j false
theorem RInv.step {T : List Bool} {i : Nat} {p : List Row × Option Int} (I : RInv T i p) : RInv T (i + 1) (rowStep p (i : Int) (T.getD i false)) := by
  obtain ⟨acc, ob⟩ := p
  have hi : ∀ u : Int, (i : Int) ≤ u → memR acc u = false := fun u hu => mem_high (c := i) (fun r hr => by obtain ⟨e, h1, h2, _⟩ := I.ends r hr; exact ⟨e, h1, Int.le_of_lt h2⟩) hu
  have split : ∀ t : Int, t < ((i + 1 : Nat) : Int) → t < (i : Int) ∨ t = (i : Int) := fun t h => by omega
  have zi : decide ((0 : Int) ≤ (i : Int)) = true := decide_eq_true (by omega)
  have ti : ((i : Int)).toNat = i := by omega
  cases ob with
  | none =>
    cases hT : T.getD i false with
    | true =>
      refine ⟨I.can, fun r hr => ?_, fun b hb => ?_, fun t ht => ?_, fun j hj => ?_⟩
      · obtain ⟨e, h1, h2, _⟩ := I.ends r hr
        exact ⟨e, h1, by omega, fun b hb => by cases hb; exact h2⟩
      · cases hb
        omega
      · show (memR acc t || decide ((i : Int) ≤ t)) = _
        rcases split t ht with h | h
        · have := I.mem t h
          simp only [Bool.or_false] at this
          rw [decide_eq_false (by omega), Bool.or_false, this]
        · rw [h, hi _ (Int.le_refl _), zi, ti, hT]
          simp
      · cases hj
        rw [hT]
        rfl
    | false =>
      refine ⟨I.can, fun r hr => ?_, fun b hb => (nomatch hb), fun t ht => ?_, fun j hj => ?_⟩
      · obtain ⟨e, h1, h2, _⟩ := I.ends r hr
        exact ⟨e, h1, by omega, fun b hb => nomatch hb⟩
      · show (memR acc t || false) = _
        rcases split t ht with h | h
        · exact I.mem t h
        · rw [h, hi _ (Int.le_refl _), zi, ti, hT]
          rfl
      · cases hj
        rw [hT]
        rfl
  | some b =>
    obtain ⟨b0, b1⟩ := I.start b rfl
    cases hT : T.getD i false with
    | true =>
      refine ⟨I.can, fun r hr => ?_, fun b' hb => ?_, fun t ht => ?_, fun j hj => ?_⟩
      · obtain ⟨e, h1, h2, h3⟩ := I.ends r hr
        exact ⟨e, h1, by omega, h3⟩
      · cases hb
        omega
      · show (memR acc t || decide (b ≤ t)) = _
        rcases split t ht with h | h
        · exact I.mem t h
        · rw [h, hi _ (Int.le_refl _), zi, ti, hT, decide_eq_true (by omega)]
          rfl
      · cases hj
        rw [hT]
        rfl
    | false =>
      refine ⟨I.can.snocR b0 (fun e he => by cases he; exact b1) fun r hr => ?_, fun r hr => ?_, fun b' hb => (nomatch hb), fun t ht => ?_, fun j hj => ?_⟩
      · obtain ⟨e, h1, h2, h3⟩ := I.ends r hr
        exact ⟨e, h1, h3 b rfl⟩
      · rcases List.mem_append.mp hr with hr | hr
        · obtain ⟨e, h1, h2, h3⟩ := I.ends r hr
          exact ⟨e, h1, by omega, fun b hb => nomatch hb⟩
        · rw [List.mem_singleton.mp hr]
          exact ⟨(i : Int), rfl, by omega, fun b hb => nomatch hb⟩
      · show (memR (acc ++ [(b, some (i : Int))]) t || false) = _
        rw [memR_append, row_single, Bool.or_false]
        rcases split t ht with h | h
        · have := I.mem t h
          simp only at this
          rw [← this]
          congr 1
          rw [Bool.eq_iff_iff, has1_iff, decide_eq_true_iff]
          exact ⟨fun z => z.1, fun z => ⟨z, fun e he => by cases he; exact h⟩⟩
        · rw [h, hi _ (Int.le_refl _), zi, ti, hT]
          have : has1 (b, some (i : Int)) (i : Int) = false := has1_end rfl
          rw [this]
          rfl
      · cases hj
        rw [hT]
        rfl
theorem row_inv (T : List Bool) : ∀ i, RInv T i (rowFold T i)
  | 0 => ⟨⟨fun r hr => by simp [rowFold] at hr, List.Pairwise.nil⟩, fun r hr => by simp [rowFold] at hr, fun b hb => (nomatch hb), fun t ht => by
      have : decide (0 ≤ t) = false := decide_eq_false (by omega)
      rw [this]
      rfl, fun j hj => (nomatch hj)⟩
  | i + 1 => (row_inv T i).step
/-- behind the last of n + 1 truths all is as there -/
theorem rows_law {T : List Bool} {n : Nat} (hn : T.length = n + 1) : Canon (rowsOf T) ∧ ∀ t : Int, memR (rowsOf T) t = (decide (0 ≤ t) && T.getD (min t.toNat n) false) := by
  have I := row_inv T (n + 1)
  have er : rowsOf T = match (rowFold T (n + 1)).2 with
    | none => (rowFold T (n + 1)).1
    | some b => (rowFold T (n + 1)).1 ++ [(b, none)] := by
    unfold rowsOf
    rw [hn]
    first | done | (cases (rowFold T (n + 1)).2 <;> rfl)
  rw [er]
  have hl := I.last n rfl
  generalize rowFold T (n + 1) = p at I hl
  obtain ⟨acc, ob⟩ := p
  have hi : ∀ u : Int, ((n + 1 : Nat) : Int) ≤ u → memR acc u = false := fun u hu => mem_high (c := ((n + 1 : Nat) : Int)) (fun r hr => by obtain ⟨e, h1, h2, _⟩ := I.ends r hr; exact ⟨e, h1, Int.le_of_lt h2⟩) hu
  have small : ∀ t : Int, t < ((n + 1 : Nat) : Int) → 0 ≤ t → min t.toNat n = t.toNat := fun t h h0 => by omega
  have big : ∀ t : Int, ¬ t < ((n + 1 : Nat) : Int) → min t.toNat n = n := fun t h => by omega
  cases ob with
  | none =>
    refine ⟨I.can, fun t => ?_⟩
    by_cases ht : t < ((n + 1 : Nat) : Int)
    · have := I.mem t ht
      simp only [Bool.or_false] at this
      show memR acc t = _
      rw [this]
      by_cases h0 : 0 ≤ t
      · rw [small t ht h0]
      · rw [decide_eq_false h0]; rfl
    · show memR acc t = _
      rw [hi t (by omega), big t ht, ← hl]
      simp
  | some b =>
    obtain ⟨b0, b1⟩ := I.start b rfl
    refine ⟨I.can.snocR b0 (fun e he => nomatch he) fun r hr => ?_, fun t => ?_⟩
    · obtain ⟨e, h1, h2, h3⟩ := I.ends r hr
      exact ⟨e, h1, h3 b rfl⟩
    · show memR (acc ++ [(b, none)]) t = _
      have hb : has1 (b, none) t = decide (b ≤ t) := by
        rw [Bool.eq_iff_iff, has1_iff, decide_eq_true_iff]
        exact ⟨fun z => z.1, fun z => ⟨z, fun e he => nomatch he⟩⟩
      rw [memR_append, row_single, hb]
      by_cases ht : t < ((n + 1 : Nat) : Int)
      · have := I.mem t ht
        simp only at this
        rw [this]
        by_cases h0 : 0 ≤ t
        · rw [small t ht h0]
        · rw [decide_eq_false h0]; rfl
      · rw [hi t (by omega), big t ht, ← hl, decide_eq_true (by omega), decide_eq_true (by omega)]
        rfl
end K7
end

section
set_option Elab.async false
set_option linter.all false
set_option maxRecDepth 100000
set_option maxHeartbeats 4000000
/-! What the law compares. -/
namespace K7
theorem rows_are {T : List Bool} {g : Int → Bool} (hn : T.length = 91) (h1 : ∀ i : Nat, i ≤ 90 → T.getD i false = g i) (h2 : ∀ u, u < 0 → g u = false) (h3 : ∀ u, 90 ≤ u → g u = g 90) (t : Int) : memR (rowsOf T) t = g t := by
  rw [(rows_law (n := 90) hn).2]
  by_cases h0 : 0 ≤ t
  · rw [decide_eq_true h0, Bool.true_and, h1 _ (Nat.min_le_right _ _)]
    by_cases ht : t ≤ 90
    · have : ((min t.toNat 90 : Nat) : Int) = t := by omega
      rw [this]
    · have : ((min t.toNat 90 : Nat) : Int) = 90 := by omega
      rw [this, h3 t (by omega)]
  · rw [decide_eq_false h0, h2 t (by omega)]
    rfl
theorem due_of {T : List Bool} {g : Int → Bool} {us : List Row} {f : Int} (hf : 0 ≤ f) (hn : T.length = 91) (h1 : ∀ i : Nat, i ≤ 90 → T.getD i false = g i) (h2 : ∀ u, u < 0 → g u = false) (h3 : ∀ u, 90 ≤ u → g u = g 90) (c : Canon us) (hm : ∀ t, memR us t = g (t - f)) : us = move f (rowsOf T) :=
  canon_uniq c (move_canon hf (rows_law (n := 90) hn).1) fun t => by rw [hm, move_mem, rows_are hn h1 h2 h3]
theorem both_due {T : List Bool} {rs ss : List Row} {f : Int} (hf : 0 ≤ f) (c1 : Canon rs) (c2 : Canon ss) (b1 : Bd 90 rs) (b2 : Bd 90 ss) (hn : T.length = 91) (h : ∀ i : Nat, i ≤ 90 → T.getD i false = (memR rs i && memR ss i)) : bothRows (move f rs) (move f ss) = move f (rowsOf T) :=
  due_of (g := fun u => memR rs u && memR ss u) hf hn h (fun u hu => by rw [canon_neg c1 hu]; rfl) (fun u hu => by rw [bd_mem b1 hu, bd_mem b2 hu]) (both_canon (move_canon hf c1) (move_canon hf c2)) fun t => by rw [both_mem, move_mem, move_mem]
theorem eith_due {T : List Bool} {rs ss ms : List Row} {f : Int} (hf : 0 ≤ f) (c1 : Canon rs) (c2 : Canon ss) (b1 : Bd 90 rs) (b2 : Bd 90 ss) (hn : T.length = 91) (h : ∀ i : Nat, i ≤ 90 → T.getD i false = (memR rs i || memR ss i)) (hp : ms.Perm (move f rs ++ move f ss)) (hs : ms.Pairwise fun r s => r.1 ≤ s.1) : eithRows ms = move f (rowsOf T) := by
  obtain ⟨e1, e2⟩ := eith_law (move_canon hf c1) (move_canon hf c2) hp hs
  exact due_of (g := fun u => memR rs u || memR ss u) hf hn h (fun u hu => by rw [canon_neg c1 hu, canon_neg c2 hu]; rfl) (fun u hu => by rw [bd_mem b1 hu, bd_mem b2 hu]) e1 fun t => by rw [e2, move_mem, move_mem]
theorem eith_is {rs ss ms us : List Row} (c1 : Canon rs) (c2 : Canon ss) (c3 : Canon us) (hp : ms.Perm (rs ++ ss)) (hs : ms.Pairwise fun r s => r.1 ≤ s.1) (h : ∀ t, memR us t = (memR rs t || memR ss t)) : eithRows ms = us := by
  obtain ⟨e1, e2⟩ := eith_law c1 c2 hp hs
  exact canon_uniq e1 c3 fun t => by rw [e2, h]
theorem cut_move (f l : Int) (rs : List Row) : (move f rs).map (cutR l) = move f (rs.map (cutR l)) := by
  unfold move
  rw [List.map_map, List.map_map]
  congr 1
  funext r
  obtain ⟨b, e⟩ := r
  cases e with
  | none => rfl
  | some e => simp [cutR, moveR]; omega
theorem cut_bd {n l : Int} {rs : List Row} (hl : 0 ≤ l) (h : Bd n rs) : Bd n (rs.map (cutR l)) := fun x hx => by
  obtain ⟨r, hr, rfl⟩ := List.mem_map.mp hx
  obtain ⟨h1, h2⟩ := h r hr
  refine ⟨h1, fun e he => ?_⟩
  cases hr2 : r.2 with
  | none => simp [cutR, hr2] at he
  | some x =>
    have := h2 x hr2
    simp [cutR, hr2] at he
    omega
theorem short_due {T : List Bool} {rs : List Row} {f l : Int} (hf : 0 ≤ f) (hl : 0 ≤ l) (c1 : Canon rs) (b1 : Bd 90 rs) (hn : T.length = 91) (h : ∀ i : Nat, i ≤ 90 → T.getD i false = memR (rs.map (cutR l)) i) : shortRows (move f rs) l = move f (rowsOf T) := by
  refine due_of (g := fun u => memR (rs.map (cutR l)) u) hf hn h (fun u hu => ?_) (fun u hu => bd_mem (cut_bd hl b1) hu) (short_canon (move_canon hf c1) hl) fun t => by rw [short_mem, cut_move, move_mem]
  refine mem_low (c := -1) (fun x hx => ?_) (by omega)
  obtain ⟨r, hr, rfl⟩ := List.mem_map.mp hx
  have := (c1.pos r hr).1
  simp only [cutR]
  omega
/-- a tick lies in one row at most -/
theorem canon_one : ∀ {rs : List Row} {r s : Row} {t : Int}, Canon rs → r ∈ rs → s ∈ rs → has1 r t = true → has1 s t = true → r = s
  | x :: rs, r, s, t, c, hr, hs, h1, h2 => by
    have far : ∀ {z : Row}, z ∈ rs → has1 x t = true → has1 z t = true → False := fun {z} hz hx hz1 => by
      cases he : x.2 with
      | none => rw [c.noneNil he] at hz; simp at hz
      | some e =>
        have := c.aboveE he z hz
        have := (has1_iff.mp hx).2 e he
        have := (has1_iff.mp hz1).1
        omega
    rcases List.mem_cons.mp hr with e1 | hr
    · rcases List.mem_cons.mp hs with e2 | hs
      · rw [e1, e2]
      · exact (far hs (e1 ▸ h1) h2).elim
    · rcases List.mem_cons.mp hs with e2 | hs
      · exact (far hr (e2 ▸ h2) h1).elim
      · exact canon_one c.tail hr hs h1 h2
/-- the ticks that the law clears for a row -/
def clears (l : Int) (r : Row) (t : Int) : Bool := match r.2 with
  | none => false
  | some e => decide (maxI r.1 (e - l) ≤ t) && decide (t < e)
theorem cut_truth {rs : List Row} {l t : Int} (c : Canon rs) (hl : 0 ≤ l) : (memR rs t && !(rs.any fun r => clears l r t)) = memR (rs.map (cutR l)) t := by
  have hc : ∀ r, clears l r t = true ↔ ∃ e, r.2 = some e ∧ r.1 ≤ t ∧ e - l ≤ t ∧ t < e := fun r => by
    unfold clears
    cases r.2 with
    | none => simp
    | some e =>
      simp only [Bool.and_eq_true, decide_eq_true_eq, maxI_lt, Option.some.injEq, exists_eq_left', and_assoc]
  have hcut : ∀ r, has1 (cutR l r) t = true ↔ r.1 ≤ t ∧ ∀ e, r.2 = some e → t < e - l := fun r => by
    rw [has1_iff]
    obtain ⟨b, e⟩ := r
    cases e with
    | none => simp [cutR]
    | some e => simp [cutR]
  rw [Bool.eq_iff_iff, Bool.and_eq_true, Bool.not_eq_true', mem_iff, mem_iff, Bool.eq_false_iff]
  constructor
  · rintro ⟨⟨r, hr, h1⟩, h2⟩
    refine ⟨cutR l r, List.mem_map.mpr ⟨r, hr, rfl⟩, (hcut r).mpr ⟨(has1_iff.mp h1).1, fun e he => ?_⟩⟩
    by_cases hlt : t < e - l
    · exact hlt
    · exact absurd (List.any_eq_true.mpr ⟨r, hr, (hc r).mpr ⟨e, he, (has1_iff.mp h1).1, by omega, (has1_iff.mp h1).2 e he⟩⟩) h2
  · rintro ⟨x, hx, h1⟩
    obtain ⟨r, hr, rfl⟩ := List.mem_map.mp hx
    obtain ⟨h2, h3⟩ := (hcut r).mp h1
    have hr1 : has1 r t = true := has1_iff.mpr ⟨h2, fun e he => by have := h3 e he; omega⟩
    refine ⟨⟨r, hr, hr1⟩, fun ha => ?_⟩
    obtain ⟨s, hs, h4⟩ := List.any_eq_true.mp ha
    obtain ⟨e, he, h5, h6, h7⟩ := (hc s).mp h4
    have hs1 : has1 s t = true := has1_iff.mpr ⟨h5, fun e' he' => by rw [he] at he'; cases he'; exact h7⟩
    have := canon_one c hr hs hr1 hs1
    subst this
    have := h3 e he
    omega
theorem hits_move (f : Int) (rs : List Row) (t : Int) : hits (move f rs) (t + f) = hits rs t := by
  unfold hits
  have e : (move f rs).length = rs.length := by unfold move; rw [List.length_map]
  rw [e]
  congr 1
  funext i
  unfold hit move
  rw [List.getElem?_map]
  cases rs[i]? with
  | none => rfl
  | some r =>
    show has1 (moveR f r) (t + f) = has1 r t
    rw [has1_move]
    congr 1
    omega
theorem room_move (f : Int) (rs : List Row) (t : Int) : roomAt (move f rs) (t + f) = roomAt rs t := by
  unfold roomAt
  rw [hits_move]
theorem room_some (rs : List Row) (t : Int) : (roomAt rs t).isSome = memR rs t := by
  have h : (hits rs t = []) ↔ memR rs t = false := by
    unfold hits
    rw [List.filter_eq_nil_iff]
    constructor
    · intro h
      cases q : memR rs t with
      | false => rfl
      | true =>
        obtain ⟨r, hr, h1⟩ := mem_iff.mp q
        obtain ⟨i, hi⟩ := List.getElem?_of_mem hr
        have hlt := (List.getElem?_eq_some_iff.mp hi).1
        refine absurd ?_ (h i (List.mem_range.mpr hlt))
        unfold hit
        rw [hi]
        exact h1
    · intro h i _ h1
      unfold hit at h1
      cases hi : rs[i]? with
      | none => rw [hi] at h1; cases h1
      | some r =>
        rw [hi] at h1
        have := mem_iff.mpr ⟨r, List.mem_of_getElem? hi, h1⟩
        rw [h] at this
        cases this
  unfold roomAt
  cases q : hits rs t with
  | nil => rw [h.mp q]; rfl
  | cons n l =>
    cases q2 : memR rs t with
    | true => rfl
    | false => rw [h.mpr q2] at q; cases q
theorem but_due {T : List Bool} {ms : List Int} {ts : List Int} {since : Option Int} (hs : ms.Pairwise (· < ·)) (hm : ∀ k, k ∈ ms ↔ k ∈ ts) (h0 : ∀ t ∈ ts, 0 ≤ t ∧ t < 90) (hb : ∀ e, since = some e → e ≤ 90) (hn : T.length = 91) (h : ∀ i : Nat, i ≤ 90 → T.getD i false = (!decide ((i : Int) ∈ ts) && below since i)) : butRows ms since = rowsOf T := by
  obtain ⟨c, e⟩ := but_law (since := since) hs fun t ht => (h0 t ((hm t).mp ht)).1
  refine canon_uniq c (rows_law (n := 90) hn).1 fun t => ?_
  rw [e, rows_are (g := fun u => decide (0 ≤ u) && (!decide (u ∈ ts) && below since u)) hn (fun i hi => ?_) (fun u hu => by rw [decide_eq_false (by omega)]; rfl) (fun u hu => ?_)]
  · have : decide (t ∈ ms) = decide (t ∈ ts) := by rw [Bool.eq_iff_iff, decide_eq_true_iff, decide_eq_true_iff, hm]
    rw [this]
  · rw [h i hi, decide_eq_true (show (0 : Int) ≤ (i : Int) by omega), Bool.true_and]
  · have n1 : u ∉ ts := fun hu' => by have := (h0 u hu').2; omega
    have n2 : (90 : Int) ∉ ts := fun hu' => by have := (h0 90 hu').2; omega
    rw [decide_eq_true (show (0 : Int) ≤ u by omega), decide_eq_true (show (0 : Int) ≤ 90 by omega), decide_eq_false n1, decide_eq_false n2]
    cases since with
    | none => rfl
    | some x =>
      have := hb x rfl
      have z1 : below (some x) u = false := decide_eq_false (by omega)
      have z2 : below (some x) 90 = false := decide_eq_false (by omega)
      rw [z1, z2]
theorem but_same {ms ms' : List Int} {since : Option Int} (h1 : ms.Pairwise (· < ·)) (h2 : ms'.Pairwise (· < ·)) (hm : ∀ k, k ∈ ms ↔ k ∈ ms') (h0 : ∀ t ∈ ms, 0 ≤ t) : butRows ms since = butRows ms' since := by
  obtain ⟨c, e⟩ := but_law (since := since) h1 h0
  obtain ⟨c', e'⟩ := but_law (since := since) h2 fun t ht => h0 t ((hm t).mpr ht)
  refine canon_uniq c c' fun t => ?_
  rw [e, e']
  have : decide (t ∈ ms) = decide (t ∈ ms') := by rw [Bool.eq_iff_iff, decide_eq_true_iff, decide_eq_true_iff, hm]
  rw [this]
end K7
end

section
set_option Elab.async false
set_option linter.all false
set_option maxRecDepth 100000
set_option maxHeartbeats 4000000
/-! law: the fixed examples. -/
namespace K7
open PySem L2 LamX LamV
theorem _root_.L2.PS.imp {X : Cx} {st : Stmt} {t t' : TS} (h : PS X st t) (k : ∀ D σ H, t' D σ H → t D σ H) : PS X st t' := ⟨fun pins s σ H D I q => h.run pins s σ H D I (k D σ H q)⟩
theorem ne_rows {K : PySem.W.Frag} {H : Hp} {x y : V} {us : List Row} {Q : VK} (h1 : Dv H x (.tuple (us.map rowD))) (h2 : Dv H y (.tuple (us.map rowD))) (q : Q (.bl false) H) : rNeD K x y H Q := by
  refine ⟨_, _, h1.dp, h2.dp, shaped_tup us, shaped_tup us, ?_⟩
  rw [eqv_self (.tuple (us.map rowD)) (by simp [PyData.canLay0, rows_lay])]
  exact q
section
variable {P : Program} {w : World} {K : PySem.W.Frag} {mg : Str → Option Value} {base : Heap} {C1 C2 : Addr} {T : List (Addr × Str)} {f : Addr} {cdv : Value} {A : Around} {outer : List Env} {s : Shared} {H0 : Hp} {E : XK}
theorem law0 (hr : Room 12 (xLaw P w K mg base f cdv A outer s H0 E).A) (F : LawFns P w K mg base T C1 C2) : PS (xLaw P w K mg base f cdv A outer s H0 E) (dLaw 0) (fun D σ H => ∀ H', Same H H' → D.nx σ H') := by
  have e : dLaw 0 = (defBody sLaw).getD 0 (.Pass ⟨0, 0, 0, 0⟩) := rfl
  rw [e]
  refine PS.imp (ps_if (pw_or (pt_cmpR (op_neD hr.units) (pe_fx F.but hr (by decide) (by rfl) L2.takes0 (fun _ _ _ _ h => h) (pa_cons (pe_lst (pa_cons pe_int (pa_cons pe_int (pa_cons pe_int (pa_cons pe_int pa_nil))))) (pa_cons pe_int pa_nil)))
      (pe_tup (pa_cons (pe_tup (pa_cons pe_int (pa_cons pe_int pa_nil))) (pa_cons (pe_tup (pa_cons pe_int (pa_cons pe_int pa_nil))) (pa_cons (pe_tup (pa_cons pe_int (pa_cons pe_int pa_nil))) pa_nil)))) (nomark _))
    (pw_or1 (pt_cmpR (op_neD hr.units) (pe_fx F.both hr (by decide) (by rfl) L2.takes0 (fun _ _ _ _ h => h) (pa_cons (pe_tup (pa_cons (pe_tup (pa_cons pe_int (pa_cons pe_int pa_nil))) pa_nil)) (pa_cons (pe_lst (pa_cons (pe_tup (pa_cons pe_int (pa_cons pe_non pa_nil))) pa_nil)) pa_nil)))
      (pe_tup (pa_cons (pe_tup (pa_cons pe_int (pa_cons pe_int pa_nil))) pa_nil)) (nomark _)))).pt (pss_one (ps_ret pe_bl)) pss_nil) fun D σ H k => ?_
  refine ⟨(by show 4 ≤ sizeLine; decide), fun l1 h1 => ?_⟩
  have S1 := Same.new (o := .lst [.int 3, .int 5, .int 5, .int 0]) h1
  refine ⟨.ref l1, .list [.int 3, .int 5, .int 5, .int 0], some 8, rfl, .lst upd_same (.cons (.int _) (.cons (.int _) (.cons (.int _) (.cons (.int _) .nil)))), (fun ds e => by cases e; decide), ?_, (fun z => nomatch z), (fun i e h => by cases e; omega)⟩
  intro ns hns _ ms m1 m2 p H2 S2 hd
  have ens : ns = [3, 5, 5, 0] := (Option.some.inj hns).symm
  subst ens
  have er : butRows ms (some 8) = [(1, some 3), (4, some 5), (6, some 8)] := by
    rw [but_same (ms' := [0, 3, 5]) m1 (by decide) (fun k => (m2 k).trans (by simp only [List.mem_cons, List.not_mem_nil, or_false]; omega)) (fun t ht => by have := (m2 t).mp ht; simp only [List.mem_cons, List.not_mem_nil, or_false] at this; omega)]
    decide
  rw [er] at hd
  refine ⟨(by show 2 ≤ sizeLine; decide), fun a1 k1 => ⟨(by show 2 ≤ sizeLine; decide), fun a2 k2 => ⟨(by show 2 ≤ sizeLine; decide), fun a3 k3 => ⟨(by show 3 ≤ sizeLine; decide), fun a4 k4 => ?_⟩⟩⟩⟩
  have Z1 := Same.new (o := .tup [.int 1, .int 3]) k1
  have Z2 := Same.new (o := .tup [.int 4, .int 5]) k2
  have Z3 := Same.new (o := .tup [.int 6, .int 8]) k3
  have Z4 := Same.new (o := .tup [.ref a1, .ref a2, .ref a3]) k4
  have S3 := (S1.trans S2).trans (Z1.trans (Z2.trans (Z3.trans Z4)))
  refine ne_rows (us := [(1, some 3), (4, some 5), (6, some 8)]) (hd.ext (Sub.of (Z1.trans (Z2.trans (Z3.trans Z4))))) (.tup upd_same (.cons (Dv.mkRow ((Z2.trans (Z3.trans Z4)) _ _ upd_same)) (.cons (Dv.mkRow ((Z3.trans Z4) _ _ upd_same)) (.cons (Dv.mkRow (Z4 _ _ upd_same)) .nil)))) ⟨_, rfl, iteF ?_⟩
  -- both_free
  refine ⟨(by show 2 ≤ sizeLine; decide), fun b1 j1 => ⟨(by show 1 ≤ sizeLine; decide), fun b2 j2 => ⟨(by show 2 ≤ sizeLine; decide), fun b3 j3 => ⟨(by show 1 ≤ sizeLine; decide), fun b4 j4 => ?_⟩⟩⟩⟩
  have Y1 := Same.new (o := .tup [.int 0, .int 4]) j1
  have Y2 := Same.new (o := .tup [.ref b1]) j2
  have Y3 := Same.new (o := .tup [.int 2, .non]) j3
  have Y4 := Same.new (o := .lst [.ref b3]) j4
  have S4 := S3.trans (Y1.trans (Y2.trans (Y3.trans Y4)))
  refine ⟨.ref b2, .ref b4, .tuple [rowD (0, some 4)], .list [rowD (2, none)], rfl, .tup ((Y3.trans Y4) _ _ upd_same) (.cons (Dv.mkRow ((Y2.trans (Y3.trans Y4)) _ _ upd_same)) .nil), .lst upd_same (.cons (Dv.mkRow (Y4 _ _ upd_same)) .nil), plain_rows (rs := [(0, some 4)]) (by decide) rfl, plain_rows (rs := [(2, none)]) (by decide) rfl, ?_, (fun z => nomatch z), (fun z => nomatch z)⟩
  intro rs ss hrs hss q H5 S5 hd5
  have er : rs = [(0, some 4)] := (Option.some.inj hrs).symm
  have es : ss = [(2, none)] := (Option.some.inj hss).symm
  subst er es
  have eb : bothRows [(0, some 4)] [(2, none)] = [(2, some 4)] := by decide
  rw [eb] at hd5
  refine ⟨(by show 2 ≤ sizeLine; decide), fun c1 i1 => ⟨(by show 1 ≤ sizeLine; decide), fun c2 i2 => ?_⟩⟩
  have W1 := Same.new (o := .tup [.int 2, .int 4]) i1
  have W2 := Same.new (o := .tup [.ref c1]) i2
  refine ne_rows (us := [(2, some 4)]) (hd5.ext (Sub.of (W1.trans W2))) (.tup upd_same (.cons (Dv.mkRow (W2 _ _ upd_same)) .nil)) ⟨_, rfl, iteF ?_⟩
  exact k _ (S4.trans (S5.trans (W1.trans W2)))
theorem law1 (hr : Room 12 (xLaw P w K mg base f cdv A outer s H0 E).A) (F : LawFns P w K mg base T C1 C2) : PS (xLaw P w K mg base f cdv A outer s H0 E) (dLaw 1) (fun D σ H => Tabs T H ∧ ∀ H', ExtN H H' → Tabs T H' → D.nx σ H') := by
  have e : dLaw 1 = (defBody sLaw).getD 1 (.Pass ⟨0, 0, 0, 0⟩) := rfl
  rw [e]
  refine PS.imp (ps_if (pw_or (pt_cmpR (op_neD hr.units) (pe_fx F.eith hr (by decide) (by rfl) L2.takes0 (fun _ _ _ _ h => h) (pa_cons (pe_lst (pa_cons (pe_tup (pa_cons pe_int (pa_cons pe_int pa_nil))) pa_nil)) (pa_cons (pe_lst (pa_cons (pe_tup (pa_cons pe_int (pa_cons pe_int pa_nil))) (pa_cons (pe_tup (pa_cons pe_int (pa_cons pe_non pa_nil))) pa_nil))) pa_nil)))
      (pe_tup (pa_cons (pe_tup (pa_cons pe_int (pa_cons pe_int pa_nil))) (pa_cons (pe_tup (pa_cons pe_int (pa_cons pe_non pa_nil))) pa_nil))) (nomark _))
    (pw_or1 (pt_cmpR op_ne (pe_fx F.room hr (by decide) (by rfl) L2.takes0 (fun _ _ _ _ h => h) (pa_cons (pe_lst (pa_cons (pe_tup (pa_cons pe_int (pa_cons pe_int pa_nil))) (pa_cons (pe_tup (pa_cons pe_int (pa_cons pe_int pa_nil))) pa_nil))) (pa_cons pe_int pa_nil))) pe_int (nomark _)))).pt (pss_one (ps_ret pe_bl)) pss_nil) fun D σ H h => ?_
  obtain ⟨hT, k⟩ := h
  refine ⟨(by show 2 ≤ sizeLine; decide), fun b1 j1 => ⟨(by show 1 ≤ sizeLine; decide), fun b2 j2 => ⟨(by show 2 ≤ sizeLine; decide), fun b3 j3 => ⟨(by show 2 ≤ sizeLine; decide), fun b4 j4 => ⟨(by show 2 ≤ sizeLine; decide), fun b5 j5 => ?_⟩⟩⟩⟩⟩
  have Y1 := Same.new (o := .tup [.int 0, .int 2]) j1
  have Y2 := Same.new (o := .lst [.ref b1]) j2
  have Y3 := Same.new (o := .tup [.int 2, .int 3]) j3
  have Y4 := Same.new (o := .tup [.int 5, .non]) j4
  have Y5 := Same.new (o := .lst [.ref b3, .ref b4]) j5
  have S4 := Y1.trans (Y2.trans (Y3.trans (Y4.trans Y5)))
  refine ⟨.ref b2, .ref b5, .list [rowD (0, some 2)], .list [rowD (2, some 3), rowD (5, none)], rfl, .lst ((Y3.trans (Y4.trans Y5)) _ _ upd_same) (.cons (Dv.mkRow ((Y2.trans (Y3.trans (Y4.trans Y5))) _ _ upd_same)) .nil), .lst upd_same (.cons (Dv.mkRow ((Y4.trans Y5) _ _ upd_same)) (.cons (Dv.mkRow (Y5 _ _ upd_same)) .nil)),
    plain_rows (rs := [(0, some 2)]) (by decide) rfl, plain_rows (rs := [(2, some 3), (5, none)]) (by decide) rfl, Tabs.ext hT S4, ?_, (fun z => nomatch z), (fun z => nomatch z)⟩
  intro rs ss hrs hss ms hpm hsm q H5 E5 T5 hd5
  have er : rs = [(0, some 2)] := (Option.some.inj hrs).symm
  have es : ss = [(2, some 3), (5, none)] := (Option.some.inj hss).symm
  subst er es
  have cc : ∀ rs : List Row, (rs.all fun r => decide (0 ≤ r.1) && match r.2 with | none => true | some e => decide (r.1 < e)) = true → rs.Pairwise gap → Canon rs := fun rs h1 h2 => ⟨fun r hr => by
    have := List.all_eq_true.mp h1 r hr
    simp only [Bool.and_eq_true, decide_eq_true_eq] at this
    refine ⟨this.1, fun e he => ?_⟩
    rw [he] at this
    simpa using this.2, h2⟩
  have eb : eithRows ms = [(0, some 3), (5, none)] := by
    refine eith_is (cc [(0, some 2)] (by decide) (List.pairwise_singleton _ _)) (cc [(2, some 3), (5, none)] (by decide) ?_) (cc [(0, some 3), (5, none)] (by decide) ?_) hpm hsm fun t => ?_
    · exact .cons (fun x hx => by rw [List.mem_singleton.mp hx]; exact ⟨3, rfl, by decide⟩) (List.pairwise_singleton _ _)
    · exact .cons (fun x hx => by rw [List.mem_singleton.mp hx]; exact ⟨3, rfl, by decide⟩) (List.pairwise_singleton _ _)
    · rw [Bool.eq_iff_iff]
      simp [memR, has1]
      omega
  rw [eb] at hd5
  refine ⟨(by show 2 ≤ sizeLine; decide), fun c1 i1 => ⟨(by show 2 ≤ sizeLine; decide), fun c2 i2 => ⟨(by show 2 ≤ sizeLine; decide), fun c3 i3 => ?_⟩⟩⟩
  have W1 := Same.new (o := .tup [.int 0, .int 3]) i1
  have W2 := Same.new (o := .tup [.int 5, .non]) i2
  have W3 := Same.new (o := .tup [.ref c1, .ref c2]) i3
  refine ne_rows (us := [(0, some 3), (5, none)]) (hd5.ext (Sub.of (W1.trans (W2.trans W3)))) (.tup upd_same (.cons (Dv.mkRow ((W2.trans W3) _ _ upd_same)) (.cons (Dv.mkRow (W3 _ _ upd_same)) .nil))) ⟨_, rfl, iteF ?_⟩
  -- room_at
  refine ⟨(by show 2 ≤ sizeLine; decide), fun d1 g1 => ⟨(by show 2 ≤ sizeLine; decide), fun d2 g2 => ⟨(by show 2 ≤ sizeLine; decide), fun d3 g3 => ?_⟩⟩⟩
  have X1 := Same.new (o := .tup [.int 0, .int 2]) g1
  have X2 := Same.new (o := .tup [.int 4, .int 6]) g2
  have X3 := Same.new (o := .lst [.ref d1, .ref d2]) g3
  refine ⟨.ref d3, .int 5, .list [rowD (0, some 2), rowD (4, some 6)], .int 5, rfl, .lst upd_same (.cons (Dv.mkRow ((X2.trans X3) _ _ upd_same)) (.cons (Dv.mkRow (X3 _ _ upd_same)) .nil)), .int 5, plain_rows (rs := [(0, some 2), (4, some 6)]) (by decide) rfl, ?_, (fun z => nomatch z), (fun _ _ z => nomatch z)⟩
  intro rs i hrs hi _ H6 S6
  have er : rs = [(0, some 2), (4, some 6)] := (Option.some.inj hrs).symm
  cases hi
  subst er
  have e1 : roomAt [(0, some 2), (4, some 6)] 5 = some 1 := by decide
  rw [e1]
  refine ⟨rfl, _, rfl, ?_⟩
  show if (!decide (V.int 1 = V.int 1)) = true then _ else _
  rw [vint_eq]
  refine iteF (k _ ?_ ?_)
  · exact ((ExtN.of S4).trans E5).trans (ExtN.of ((W1.trans (W2.trans W3)).trans ((X1.trans (X2.trans X3)).trans S6)))
  · exact Tabs.ext T5 ((W1.trans (W2.trans W3)).trans ((X1.trans (X2.trans X3)).trans S6))
theorem law2 (hr : Room 12 (xLaw P w K mg base f cdv A outer s H0 E).A) (F : LawFns P w K mg base T C1 C2) : PS (xLaw P w K mg base f cdv A outer s H0 E) (dLaw 2) (fun D σ H => ∀ H', Same H H' → D.nx σ H') := by
  have e : dLaw 2 = (defBody sLaw).getD 2 (.Pass ⟨0, 0, 0, 0⟩) := rfl
  rw [e]
  refine PS.imp (ps_if (pt_cmpR (op_neD hr.units) (pe_fx F.short hr (by decide) (by rfl) L2.takes0 (fun _ _ _ _ h => h) (pa_cons (pe_lst (pa_cons (pe_tup (pa_cons pe_int (pa_cons pe_int pa_nil))) (pa_cons (pe_tup (pa_cons pe_int (pa_cons pe_int pa_nil))) (pa_cons (pe_tup (pa_cons pe_int (pa_cons pe_non pa_nil))) pa_nil)))) (pa_cons pe_int pa_nil)))
      (pe_tup (pa_cons (pe_tup (pa_cons pe_int (pa_cons pe_int pa_nil))) (pa_cons (pe_tup (pa_cons pe_int (pa_cons pe_non pa_nil))) pa_nil))) (nomark _)) (pss_one (ps_ret pe_bl)) pss_nil) fun D σ H k => ?_
  refine ⟨(by show 2 ≤ sizeLine; decide), fun b1 j1 => ⟨(by show 2 ≤ sizeLine; decide), fun b2 j2 => ⟨(by show 2 ≤ sizeLine; decide), fun b3 j3 => ⟨(by show 3 ≤ sizeLine; decide), fun b4 j4 => ?_⟩⟩⟩⟩
  have Y1 := Same.new (o := .tup [.int 0, .int 2]) j1
  have Y2 := Same.new (o := .tup [.int 4, .int 7]) j2
  have Y3 := Same.new (o := .tup [.int 9, .non]) j3
  have Y4 := Same.new (o := .lst [.ref b1, .ref b2, .ref b3]) j4
  refine ⟨.ref b4, .int 2, .list [rowD (0, some 2), rowD (4, some 7), rowD (9, none)], .int 2, rfl, .lst upd_same (.cons (Dv.mkRow ((Y2.trans (Y3.trans Y4)) _ _ upd_same)) (.cons (Dv.mkRow ((Y3.trans Y4) _ _ upd_same)) (.cons (Dv.mkRow (Y4 _ _ upd_same)) .nil))), .int 2,
    plain_rows (rs := [(0, some 2), (4, some 7), (9, none)]) (by decide) rfl, ?_, (fun z => nomatch z), (fun z => nomatch z)⟩
  intro rs l hrs hl _ q H5 S5 hd5
  have er : rs = [(0, some 2), (4, some 7), (9, none)] := (Option.some.inj hrs).symm
  cases hl
  subst er
  have eb : shortRows [(0, some 2), (4, some 7), (9, none)] 2 = [(4, some 5), (9, none)] := by decide
  rw [eb] at hd5
  refine ⟨(by show 2 ≤ sizeLine; decide), fun c1 i1 => ⟨(by show 2 ≤ sizeLine; decide), fun c2 i2 => ⟨(by show 2 ≤ sizeLine; decide), fun c3 i3 => ?_⟩⟩⟩
  have W1 := Same.new (o := .tup [.int 4, .int 5]) i1
  have W2 := Same.new (o := .tup [.int 9, .non]) i2
  have W3 := Same.new (o := .tup [.ref c1, .ref c2]) i3
  refine ne_rows (us := [(4, some 5), (9, none)]) (hd5.ext (Sub.of (W1.trans (W2.trans W3)))) (.tup upd_same (.cons (Dv.mkRow ((W2.trans W3) _ _ upd_same)) (.cons (Dv.mkRow (W3 _ _ upd_same)) .nil))) ⟨_, rfl, iteF ?_⟩
  exact k _ ((Y1.trans (Y2.trans (Y3.trans Y4))).trans (S5.trans (W1.trans (W2.trans W3))))
end
end K7
end

section
set_option Elab.async false
set_option linter.all false
set_option maxRecDepth 100000
set_option maxHeartbeats 4000000
/-! law: a round's draws. -/
namespace K7
open PySem L2 LamX LamV
/-- a step of the law: the box may change, tables may grow -/
structure Stp (p : Addr) (T : List (Addr × Str)) (H H' : Hp) : Prop where
  bx : Bx p H'
  ext : ExtN (off p H) (off p H')
  tb : Tabs T H'
theorem Stp.trans {p : Addr} {T : List (Addr × Str)} {H H1 H2 : Hp} (a : Stp p T H H1) (b : Stp p T H1 H2) : Stp p T H H2 := ⟨b.bx, a.ext.trans b.ext, b.tb⟩
theorem Stp.same {p : Addr} {T : List (Addr × Str)} {H H' : Hp} (bx : Bx p H) (tb : Tabs T H) (S : Same H H') : Stp p T H H' := by
  obtain ⟨a, b, c, h⟩ := bx
  exact ⟨⟨a, b, c, S _ _ h⟩, ExtN.of (off_mono S), Tabs.ext tb S⟩
theorem Tabs.ofOff {T : List (Addr × Str)} {p : Addr} {H : Hp} (t : Tabs T (off p H)) : Tabs T H := Tabs.ext t off_le
theorem Stp.box {p : Addr} {T : List (Addr × Str)} {H : Hp} (bx : Bx p H) (tb : Tabs T H) (a b c : Int) : Stp p T H (upd H p (.lst [.int a, .int b, .int c])) := by
  obtain ⟨x, y, z, h⟩ := bx
  refine ⟨⟨a, b, c, upd_same⟩, by rw [off_upd]; exact ExtN.refl _, Tabs.ofOff (p := p) ?_⟩
  rw [off_upd]
  exact Tabs.offL tb h
theorem Stp.extN {p : Addr} {T : List (Addr × Str)} {H H' : Hp} (bx : Bx p H) (e : ExtN H H') (tb : Tabs T H') : Stp p T H H' := by
  obtain ⟨a, b, c, h⟩ := bx
  refine ⟨⟨a, b, c, e _ _ h (fun _ z => by cases z)⟩, fun x o hx hn => ?_, tb⟩
  have hxp : x ≠ p := fun z => by rw [z, off_at] at hx; cases hx
  rw [off_ne hxp] at hx ⊢
  exact e _ _ hx hn
/-- boxes apart: what is new is not the box -/
theorem Bx.ne {p q : Addr} {H : Hp} (b : Bx p H) (h : H q = none) : q ≠ p := by
  obtain ⟨x, y, z, e⟩ := b
  exact (ne_of_none e h).symm
def Tr (rs : List Row) : List Bool := (List.range 91).map fun i : Nat => memR rs (i : Int)
theorem Tr_len (rs : List Row) : (Tr rs).length = 91 := by unfold Tr; simp
theorem Tr_get (rs : List Row) {i : Nat} (h : i ≤ 90) : (Tr rs).getD i false = memR rs i := by
  unfold Tr
  rw [List.getD_eq_getElem?_getD, List.getElem?_map, List.getElem?_range (by omega)]
  rfl
def movedD (f : Int) (rs ss : List Row) : PyData := .list [.list ((move f rs).map rowD), .list ((move f ss).map rowD)]
theorem _root_.L2.SqL.extN {K : PySem.W.Frag} {H H' : Hp} {a : Addr} {xs : List V} (h : SqL K H a xs) (e : ExtN H H') : SqL K H' a xs := by
  rcases h with h | h
  · rcases h with h | ⟨o, h⟩
    · exact .inl (.inl (e _ _ h (fun _ z => by cases z)))
    · exact .inl (.inr ⟨o, e _ _ h (fun _ z => by cases z)⟩)
  · exact .inr h
theorem _root_.L2.SqL.offNew {K : PySem.W.Frag} {H H' : Hp} {p a : Addr} {xs : List V} (h : SqL K H a xs) (hp : H p = none) (S : Same H H') : SqL K (off p H') a xs := by
  rcases h with h | h
  · rcases h with h | ⟨o, h⟩
    · exact .inl (.inl (by rw [off_ne (ne_of_none h hp)]; exact S _ _ h))
    · exact .inl (.inr ⟨o, by rw [off_ne (ne_of_none h hp)]; exact S _ _ h⟩)
  · exact .inr h
/-- the round's frame, n statements done -/
structure LC (K : PySem.W.Frag) (n : Nat) (T : List (Addr × Str)) (qs : Addr) (ns : List Int) (p : Addr) (rs ss : List Row) (f l : Int) (v : LV) (H : Hp) : Prop where
  box : v.box = some (.ref p)
  bx : Bx p H
  tb : Tabs T H
  scr : v.script = some (.ref qs) ∧ SqL K (off p H) qs (ns.map V.int)
  one : 1 ≤ n → ∃ q, v.one = some (.ref q) ∧ Dv (off p H) (.ref q) (.list (rs.map rowD))
  other : 1 ≤ n → ∃ q, v.other = some (.ref q) ∧ Dv (off p H) (.ref q) (.list (ss.map rowD))
  far : 2 ≤ n → v.far = some (.int f)
  last : 3 ≤ n → v.last = some (.int 90)
  late : 3 ≤ n → v.late = some (.int l)
  has : 4 ≤ n → ∃ q, v.has = some (.ref q) ∧ Dv (off p H) (.ref q) (.list ((Tr rs).map PyData.bool))
  more : 5 ≤ n → ∃ q, v.more = some (.ref q) ∧ Dv (off p H) (.ref q) (.list ((Tr ss).map PyData.bool))
  moved : 6 ≤ n → ∃ q, v.moved = some (.ref q) ∧ Dv (off p H) (.ref q) (movedD f rs ss)
  kept : 7 ≤ n → v.kept = some (.str (movedD f rs ss).shown)
theorem LC.step {K : PySem.W.Frag} {n : Nat} {T : List (Addr × Str)} {qs : Addr} {ns : List Int} {p : Addr} {rs ss : List Row} {f l : Int} {v : LV} {H H' : Hp} (c : LC K n T qs ns p rs ss f l v H) (s : Stp p T H H') : LC K n T qs ns p rs ss f l v H' := by
  have S : Sub (off p H) (off p H') := Sub.ofN s.ext
  exact ⟨c.box, s.bx, s.tb, ⟨c.scr.1, c.scr.2.extN s.ext⟩, fun h => let ⟨q, a, b⟩ := c.one h; ⟨q, a, b.ext S⟩, fun h => let ⟨q, a, b⟩ := c.other h; ⟨q, a, b.ext S⟩, c.far, c.last, c.late, fun h => let ⟨q, a, b⟩ := c.has h; ⟨q, a, b.ext S⟩, fun h => let ⟨q, a, b⟩ := c.more h; ⟨q, a, b.ext S⟩, fun h => let ⟨q, a, b⟩ := c.moved h; ⟨q, a, b.ext S⟩, c.kept⟩
/-- the plain side of a round -/
structure LP (rs ss : List Row) (f l : Int) : Prop where
  c1 : Canon rs
  c2 : Canon ss
  b1 : Bd 90 rs
  b2 : Bd 90 ss
  l1 : rs.length ≤ 4
  l2 : ss.length ≤ 4
  f0 : 0 ≤ f
  f1 : f ≤ 101000000
  d0 : 0 ≤ l
  d1 : l < 7
section
variable {P : Program} {w : World} {K : PySem.W.Frag} {mg : Str → Option Value} {base : Heap} {C1 C2 : Addr} {T : List (Addr × Str)} {f : Addr} {cdv : Value} {A : Around} {outer : List Env} {s : Shared} {H0 : Hp} {E : XK}
theorem k0 {qs : Addr} {ns : List Int} (hr : Room 12 (xLaw P w K mg base f cdv A outer s H0 E).A) (F : LawFns P w K mg base T C1 C2) : PS (xLaw P w K mg base f cdv A outer s H0 E) (dK 0) (fun D σ H => ∃ v : LV, ∃ k : Nat, σ = v.st ∧ v.script = some (.ref qs) ∧ v.k = some (.int k) ∧ k < 4 ∧ SqL K H qs (ns.map V.int) ∧ ns.length ≤ 63 ∧ Tabs T H ∧
    ∀ (v' : LV) p H', LC K 0 T qs ns p [] [] 0 0 v' H' → ExtN H H' → D.nx v'.st H') := by
  have e : dK 0 = (forBody (dLaw 3)).getD 0 (.Pass ⟨0, 0, 0, 0⟩) := rfl
  rw [e]
  refine PS.imp (ps_set (i := 2) ndLaw rfl (Or.inr rfl) (pe_f F.box hr (by decide) (by rfl) (pa_cons (pv 0) (pa_cons (pv 1) pa_nil)))) fun D σ H h => ?_
  obtain ⟨v, k, rfl, h1, h2, h3, h4, h5, h6, k1⟩ := h
  refine ⟨_, congrArg some h1, _, congrArg some h2, qs, ns, k, rfl, h4, by omega, h3, fun p H' S hp hb => ?_⟩
  refine k1 { v with box := some (.ref p) } p H' ⟨rfl, hb, Tabs.ext h6 S, ⟨h1, h4.offNew hp S⟩, fun h => ?_, fun h => ?_, fun h => ?_, fun h => ?_, fun h => ?_, fun h => ?_, fun h => ?_, fun h => ?_, fun h => ?_⟩ (ExtN.of S) <;> omega
theorem k1 {qs : Addr} {ns : List Int} (hr : Room 12 (xLaw P w K mg base f cdv A outer s H0 E).A) (F : LawFns P w K mg base T C1 C2) : PS (xLaw P w K mg base f cdv A outer s H0 E) (dK 1) (fun D σ H => ∃ (v : LV) (p : Addr), σ = v.st ∧ LC K 0 T qs ns p [] [] 0 0 v H ∧
    ∀ (v' : LV) rs ss H', Canon rs → Canon ss → Bd 90 rs → Bd 90 ss → rs.length ≤ 4 → ss.length ≤ 4 → LC K 1 T qs ns p rs ss 0 0 v' H' → ExtN (off p H) (off p H') → D.nx v'.st H') := by
  have e : dK 1 = (forBody (dLaw 3)).getD 1 (.Pass ⟨0, 0, 0, 0⟩) := rfl
  rw [e]
  refine PS.imp (ps_asg (pe_tup (pa_cons (pe_f F.str hr (by decide) (by rfl) (pa_cons (pv 2) pa_nil)) (pa_cons (pe_f F.str hr (by decide) (by rfl) (pa_cons (pv 2) pa_nil)) pa_nil)))
      (pg_tup rfl (pgs_cons (pg_name (i := 3) ndLaw rfl (Or.inr rfl)) (pgs_cons (pg_name (i := 4) ndLaw rfl (Or.inr rfl)) pgs_nil)))) fun D σ H h => ?_
  obtain ⟨v, p, rfl, c, k⟩ := h
  refine ⟨_, congrArg some c.box, p, rfl, c.bx, fun rs q1 H1 c1 b1 l1 bx1 S1 d1 => ?_⟩
  refine ⟨_, congrArg some c.box, p, rfl, bx1, fun ss q2 H2 c2 b2 l2 bx2 S2 d2 => ⟨(by show 2 ≤ sizeLine; decide), fun t ht => ?_⟩⟩
  have S3 := Same.new (o := .tup [.ref q1, .ref q2]) ht
  refine ⟨t, _, rfl, SqT.of upd_same, rfl, _, _, rfl, _, _, rfl, rfl, ?_⟩
  obtain ⟨xa, xb, xc, hp0⟩ := id c.bx
  have T2 : Tabs T H2 := Tabs.ofOff (p := p) (Tabs.ext (Tabs.ext (Tabs.offL c.tb hp0) S1) S2)
  have st : Stp p T H (upd H2 t (.tup [.ref q1, .ref q2])) := (Stp.mk bx2 (ExtN.of (S1.trans S2)) T2).trans (Stp.same bx2 T2 S3)
  have SO := off_mono (p := p) S3
  have c' := c.step st
  exact k { v with one := some (.ref q1), other := some (.ref q2) } rs ss _ c1 c2 b1 b2 l1 l2 ⟨c'.box, c'.bx, c'.tb, c'.scr, fun _ => ⟨q1, rfl, d1.ext (Sub.of (S2.trans SO))⟩, fun _ => ⟨q2, rfl, d2.ext (Sub.of SO)⟩, fun h => by omega, fun h => by omega, fun h => by omega, fun h => by omega, fun h => by omega, fun h => by omega, fun h => by omega⟩ st.ext
theorem k2 {qs : Addr} {ns : List Int} (hr : Room 12 (xLaw P w K mg base f cdv A outer s H0 E).A) (F : LawFns P w K mg base T C1 C2) : PS (xLaw P w K mg base f cdv A outer s H0 E) (dK 2) (fun D σ H => ∃ (v : LV) (p : Addr) (rs ss : List Row), σ = v.st ∧ LC K 1 T qs ns p rs ss 0 0 v H ∧
    ∀ (v' : LV) fr H', 0 ≤ fr → fr ≤ 101000000 → LC K 2 T qs ns p rs ss fr 0 v' H' → ExtN (off p H) (off p H') → D.nx v'.st H') := by
  have e : dK 2 = (forBody (dLaw 3)).getD 2 (.Pass ⟨0, 0, 0, 0⟩) := rfl
  rw [e]
  refine PS.imp (ps_set (i := 5) ndLaw rfl (Or.inr rfl) (pe_f F.pick hr (by decide) (by rfl) (pa_cons (pv 2) (pa_cons (pe_lst (pa_cons pe_int (pa_cons pe_int (pa_cons pe_int (pa_cons (pe_op op_add (pe_op op_pow pe_int pe_int) (pe_f F.take hr (by decide) (by rfl) (pa_cons (pv 2) (pa_cons (pe_op op_pow pe_int pe_int) pa_nil)))) pa_nil))))) pa_nil)))) fun D σ H h => ?_
  obtain ⟨v, p, rs, ss, rfl, c, k⟩ := h
  refine ⟨_, congrArg some c.box, 10, 8, rfl, rfl, ⟨by decide, by decide, by decide⟩, _, congrArg some c.box, 10, 6, rfl, rfl, ⟨by decide, by decide, by decide⟩, p, _, rfl, c.bx, by decide, by decide, fun d a b c' hd0 hd1 => ⟨_, d, rfl, rfl, (by show 4 ≤ sizeLine; decide), fun l hl => ?_⟩⟩
  have s1 := Stp.box c.bx c.tb a b c'
  have c1 := c.step s1
  have S2 := Same.new (o := .lst [.int 0, .int 0, .int 0, .int ((10 : Int) ^ (8 : Int).toNat + d)]) hl
  have s2 := Stp.same c1.bx c1.tb S2
  have c2 := c1.step s2
  refine ⟨p, l, _, rfl, c2.bx, upd_same, c1.bx.ne hl, (by simp), (by simp), fun i x a2 b2 c2' hx => ?_⟩
  have s3 := Stp.box c2.bx c2.tb a2 b2 c2'
  have c3 := c2.step s3
  have e6 : ((10 : Int) ^ (6 : Int).toNat) = 1000000 := by decide
  have e8 : ((10 : Int) ^ (8 : Int).toNat) = 100000000 := by decide
  rw [e6] at hd1
  obtain ⟨fr, rfl, h0, h1⟩ : ∃ fr : Int, x = .int fr ∧ 0 ≤ fr ∧ fr ≤ 101000000 := by
    match i, hx with
    | 0, h => exact ⟨0, (Option.some.inj h).symm, by omega, by omega⟩
    | 1, h => exact ⟨0, (Option.some.inj h).symm, by omega, by omega⟩
    | 2, h => exact ⟨0, (Option.some.inj h).symm, by omega, by omega⟩
    | 3, h => exact ⟨_, (Option.some.inj h).symm, by rw [e8]; omega, by rw [e8]; omega⟩
    | i + 4, h => simp at h
  exact k { v with far := some (.int fr) } fr _ h0 h1 ⟨c3.box, c3.bx, c3.tb, c3.scr, fun _ => c3.one (by omega), fun _ => c3.other (by omega), fun _ => rfl, fun h => by omega, fun h => by omega, fun h => by omega, fun h => by omega, fun h => by omega, fun h => by omega⟩ ((s1.trans s2).trans s3).ext
theorem k3 {qs : Addr} {ns : List Int} (hr : Room 12 (xLaw P w K mg base f cdv A outer s H0 E).A) (F : LawFns P w K mg base T C1 C2) : PS (xLaw P w K mg base f cdv A outer s H0 E) (dK 3) (fun D σ H => ∃ (v : LV) (p : Addr) (rs ss : List Row) (fr : Int), σ = v.st ∧ LC K 2 T qs ns p rs ss fr 0 v H ∧
    ∀ (v' : LV) l H', 0 ≤ l → l < 7 → LC K 3 T qs ns p rs ss fr l v' H' → ExtN (off p H) (off p H') → D.nx v'.st H') := by
  have e : dK 3 = (forBody (dLaw 3)).getD 3 (.Pass ⟨0, 0, 0, 0⟩) := rfl
  rw [e]
  refine PS.imp (ps_par (i := 6) (j := 7) rfl ndLaw rfl rfl (by decide) rfl rfl (pa_cons pe_int (pa_cons (pe_f F.take hr (by decide) (by rfl) (pa_cons (pv 2) (pa_cons pe_int pa_nil))) pa_nil)) rfl) fun D σ H h => ?_
  obtain ⟨v, p, rs, ss, fr, rfl, c, k⟩ := h
  refine ⟨_, congrArg some c.box, p, 7, rfl, c.bx, by decide, by decide, fun d a b c' h0 h1 => ⟨_, _, rfl, ?_⟩⟩
  have s1 := Stp.box c.bx c.tb a b c'
  have c1 := c.step s1
  exact k { v with last := some (.int 90), late := some (.int d) } d _ h0 h1 ⟨c1.box, c1.bx, c1.tb, c1.scr, fun _ => c1.one (by omega), fun _ => c1.other (by omega), fun _ => c1.far (by omega), fun _ => rfl, fun _ => rfl, fun h => by omega, fun h => by omega, fun h => by omega, fun h => by omega⟩ s1.ext
end
end K7
end

section
set_option Elab.async false
set_option linter.all false
set_option maxRecDepth 100000
set_option maxHeartbeats 4000000
/-! law: the truths of a round, the moved rows. -/
namespace K7
open PySem L2 LamX LamV
theorem rangeWk {n : Nat} : ∀ i (H : Hp), i < n → (Itr 0 n).go i H := fun i H h => h
/-- a comprehension of truths over range(91) -/
theorem lc_truths {g : TG} {tt : TT} {te : TE} {vs : List Nat} {σ : St} {H1 : Hp} {D : Addr} {QD : Hp → Prop} (B : List Bool) (hB : B.length = 91) (hD : H1 D = none)
    (turn : ∀ (i : Nat) H acc (N : Hp → Prop), i < 91 → Same H1 H → H D = some (.lst acc) → (∀ H4 y, Same H H4 → y = V.bl (B.getD i false) → ∃ acc, H4 D = some (.lst acc) ∧ acc.length < sizeLine ∧ N (upd H4 D (.lst (acc ++ [y])))) →
      g (.int (0 + (i : Int))) (wipe σ vs) H fun σ2 H2 => wipe σ2 vs = wipe σ vs ∧ tt σ2 H2 fun b H3 => if b = true then te σ2 H3 fun y H4 => ∃ acc, H4 D = some (.lst acc) ∧ acc.length < sizeLine ∧ N (upd H4 D (.lst (acc ++ [y]))) else N H3)
    (hd : ∀ H, Same H1 H → Dv H (.ref D) (.list (B.map PyData.bool)) → QD H) :
    ∃ W : Nat → Nat → Hp → Prop, (∃ m, W 0 m (upd H1 D (.lst []))) ∧ ∀ i m H, W i m H →
      ((Itr 0 91).stop i H ∧ QD H) ∨ ((Itr 0 91).go i H ∧ ∃ Nx : Hp → Prop, (∀ H', Nx H' → ∃ m', m' < m ∧ W (i + 1) m' H') ∧ ∀ x H', (Itr 0 91).yld i H x H' → g x (wipe σ vs) H' fun σ2 H2 => wipe σ2 vs = wipe σ vs ∧ tt σ2 H2 fun b H3 =>
        if b = true then te σ2 H3 fun y H4 => ∃ acc, H4 D = some (.lst acc) ∧ acc.length < sizeLine ∧ Nx (upd H4 D (.lst (acc ++ [y]))) else Nx H3) := by
  refine lc_dv 91 (fun i => (B.take i).map PyData.bool) hD rfl (fun i hi => small1000 (by rw [List.length_map, List.length_take]; omega)) (fun i H hi _ => hi) (fun H _ => Nat.le_refl _) (fun i H x H' acc N hi S ha yl hN hS => ?_) (fun H xs S hx hz => ?_)
  · obtain ⟨rfl, rfl⟩ := yl
    refine turn i H' acc N hi S ha fun H4 y S4 hy => ?_
    subst hy
    refine hN H4 _ (.bool (B.getD i false)) S4 (.bl _) ?_
    show List.map _ (List.take (i + 1) B) = _
    have hl : i < B.length := by omega
    rw [List.take_add_one, List.getElem?_eq_getElem hl, List.getD_eq_getElem?_getD, List.getElem?_eq_getElem hl, List.map_append]
    rfl
  · have e3 : B.take 91 = B := by rw [← hB, List.take_length]
    have hz1 : DvAll (off D H) xs ((B.take 91).map PyData.bool) := hz
    rw [e3] at hz1
    exact hd H S (.lst hx (hz1.ext off_sub))
theorem Dv.offRows {p : Addr} {H : Hp} {v : V} {us : List Row} (bx : Bx p H) (h : Dv H v (.list (us.map rowD))) : Dv (K7.off p H) v (.list (us.map rowD)) := by
  obtain ⟨a, b, c, hp⟩ := bx
  cases h with
  | lst e r =>
    refine .lst ?_ (r.off hp (noList_rows _))
    rw [off_ne fun z => ?_]
    · exact e
    · rw [z, hp] at e
      cases e
      cases us with
      | nil => cases r
      | cons u us =>
        cases r with
        | cons x y =>
          obtain ⟨_, q, _⟩ := Dv.row x
          cases q
theorem yesI {te : TE} {σ : St} {H : Hp} {Q : VK} {N : Hp → Prop} (h : te σ H Q) : tYes σ H (fun b H3 => if b = true then te σ H3 Q else N H3) := by
  unfold tYes
  exact iteT h
def lcScope (e : Expr) : Scope := match e with
  | .ListComp _ _ s _ => s
  | _ => { kind := .function, names := [], isGenerator := false, isCoroutine := false }
def asgVal (st : Stmt) : Expr := match st with
  | .Assign _ e _ => e
  | _ => .Constant .none 0 ⟨0, 0, 0, 0⟩
def lcElt (e : Expr) : Expr := match e with
  | .ListComp x _ _ _ => x
  | _ => .Constant .none 0 ⟨0, 0, 0, 0⟩
section
variable {P : Program} {w : World} {K : PySem.W.Frag} {mg : Str → Option Value} {base : Heap} {C1 C2 : Addr} {T : List (Addr × Str)} {f : Addr} {cdv : Value} {A : Around} {outer : List Env} {s : Shared} {H0 : Hp} {E : XK}
theorem k4 {qs : Addr} {ns : List Int} (hr : Room 12 (xLaw P w K mg base f cdv A outer s H0 E).A) (F : LawFns P w K mg base T C1 C2) : PS (xLaw P w K mg base f cdv A outer s H0 E) (dK 4) (fun D σ H => ∃ (v : LV) (p : Addr) (rs ss : List Row) (fr l : Int), σ = v.st ∧ LP rs ss fr l ∧ LC K 3 T qs ns p rs ss fr l v H ∧
    ∀ (v' : LV) H', LC K 4 T qs ns p rs ss fr l v' H' → ExtN (off p H) (off p H') → D.nx v'.st H') := by
  have e : dK 4 = (forBody (dLaw 3)).getD 4 (.Pass ⟨0, 0, 0, 0⟩) := rfl
  rw [e]
  refine PS.imp (ps_set (i := 9) ndLaw rfl (Or.inr rfl) (pe_lc (te := tCall spHas [] E0 (tCons (tVar 3) (tCons (tVar 8) tNil))) (own := [("_law_tick", 8)]) (g := gName 8) rfl ndLaw (pi_range1 (by rfl) F.B.range (pa_cons (pe_op op_add (pv 6) pe_int) pa_nil)) (blkOk_by (own := [("_law_tick", 8)]) (N := nLaw) (sc := defScope sLaw) (by decide +kernel))
      (fun _ _ _ _ _ => pg_name (i := 8) ndLaw rfl (Or.inl rfl)) (fun _ _ _ _ _ => pts_nil) (fun _ _ _ _ _ => pe_f F.has hr (by decide) (by rfl) (pa_cons (pv 3) (pa_cons (pv 8) pa_nil))))) fun D σ H h => ?_
  obtain ⟨v, p, rs, ss, fr, l, rfl, lp, c, k⟩ := h
  obtain ⟨q, hq, hd⟩ := c.one (by omega)
  refine ⟨_, congrArg some (c.last (by omega)), 90, 1, rfl, rfl, 91, rfl, by decide, by decide, fun D0 hD0 => ?_⟩
  refine lc_truths (Tr rs) (Tr_len rs) hD0 (fun i H1 acc N hi S ha hN => ?_) (fun H1 S hdv => ?_)
  · refine ⟨rfl, ?_⟩
    unfold tYes
    refine iteT ⟨_, congrArg some hq, _, rfl, .ref q, (0 : Int) + (i : Int), rs, rfl, hd.ext (off_sub.trans (Sub.of S)), by have := lp.l1; omega, fun H2 S2 => hN H2 _ S2 ?_⟩
    rw [Tr_get rs (by omega), Int.zero_add]
  · have st := Stp.same c.bx c.tb S
    have c' := c.step st
    have nD : D0 ≠ p := c.bx.ne hD0
    refine k { v with has := some (.ref D0) } H1 ⟨c'.box, c'.bx, c'.tb, c'.scr, fun _ => c'.one (by omega), fun _ => c'.other (by omega), fun _ => c'.far (by omega), fun _ => c'.last (by omega), fun _ => c'.late (by omega), fun _ => ⟨D0, rfl, ?_⟩, fun h => by omega, fun h => by omega, fun h => by omega⟩ st.ext
    cases hdv with
    | lst h r =>
      rw [r.to_bls] at h
      exact .lst (by rw [off_ne nD]; exact h) (DvAll.bls _)
theorem k5 {qs : Addr} {ns : List Int} (hr : Room 12 (xLaw P w K mg base f cdv A outer s H0 E).A) (F : LawFns P w K mg base T C1 C2) : PS (xLaw P w K mg base f cdv A outer s H0 E) (dK 5) (fun D σ H => ∃ (v : LV) (p : Addr) (rs ss : List Row) (fr l : Int), σ = v.st ∧ LP rs ss fr l ∧ LC K 4 T qs ns p rs ss fr l v H ∧
    ∀ (v' : LV) H', LC K 5 T qs ns p rs ss fr l v' H' → ExtN (off p H) (off p H') → D.nx v'.st H') := by
  have e : dK 5 = (forBody (dLaw 3)).getD 5 (.Pass ⟨0, 0, 0, 0⟩) := rfl
  rw [e]
  refine PS.imp (ps_set (i := 10) ndLaw rfl (Or.inr rfl) (pe_lc (te := tCall spHas [] E0 (tCons (tVar 4) (tCons (tVar 8) tNil))) (own := [("_law_tick", 8)]) (g := gName 8) rfl ndLaw (pi_range1 (by rfl) F.B.range (pa_cons (pe_op op_add (pv 6) pe_int) pa_nil)) (blkOk_by (own := [("_law_tick", 8)]) (N := nLaw) (sc := defScope sLaw) (by decide +kernel))
      (fun _ _ _ _ _ => pg_name (i := 8) ndLaw rfl (Or.inl rfl)) (fun _ _ _ _ _ => pts_nil) (fun _ _ _ _ _ => pe_f F.has hr (by decide) (by rfl) (pa_cons (pv 4) (pa_cons (pv 8) pa_nil))))) fun D σ H h => ?_
  obtain ⟨v, p, rs, ss, fr, l, rfl, lp, c, k⟩ := h
  obtain ⟨q, hq, hd⟩ := c.other (by omega)
  refine ⟨_, congrArg some (c.last (by omega)), 90, 1, rfl, rfl, 91, rfl, by decide, by decide, fun D0 hD0 => ?_⟩
  refine lc_truths (Tr ss) (Tr_len ss) hD0 (fun i H1 acc N hi S ha hN => ?_) (fun H1 S hdv => ?_)
  · refine ⟨rfl, ?_⟩
    unfold tYes
    refine iteT ⟨_, congrArg some hq, _, rfl, .ref q, (0 : Int) + (i : Int), ss, rfl, hd.ext (off_sub.trans (Sub.of S)), by have := lp.l2; omega, fun H2 S2 => hN H2 _ S2 ?_⟩
    rw [Tr_get ss (by omega), Int.zero_add]
  · have st := Stp.same c.bx c.tb S
    have c' := c.step st
    have nD : D0 ≠ p := c.bx.ne hD0
    refine k { v with more := some (.ref D0) } H1 ⟨c'.box, c'.bx, c'.tb, c'.scr, fun _ => c'.one (by omega), fun _ => c'.other (by omega), fun _ => c'.far (by omega), fun _ => c'.last (by omega), fun _ => c'.late (by omega), fun _ => c'.has (by omega), fun _ => ⟨D0, rfl, ?_⟩, fun h => by omega, fun h => by omega⟩ st.ext
    cases hdv with
    | lst h r =>
      rw [r.to_bls] at h
      exact .lst (by rw [off_ne nD]; exact h) (DvAll.bls _)
/-- the moved row's term: (row[0] + far, None if row[1] is None else row[1] + far), row in slot 11, far in slot 5 -/
def tMove (K : PySem.W.Frag) : TE := fun σ H Q => ∃ a r fr, σ[11]? = some (some (.ref a)) ∧ H a = some (.tup [.int r.1, optV r.2]) ∧ σ[5]? = some (some (.int fr)) ∧ ∀ t, H t = none → Q (.ref t) (upd H t (.tup [.int (moveR fr r).1, optV (moveR fr r).2]))
theorem tMove_to {K : PySem.W.Frag} {σ : St} {H : Hp} {Q : VK} (h : tMove K σ H Q) :
    tTup (tCons (tOp (rI0 fun i j => .int (i + j)) (tOp (rIxT K) (tVar 11) (tC (.int 0))) (tVar 5)) (tCons (tIf (tTest (tOp (fun x y H Q => y = .non ∧ Q (.bl (decide (x = .non))) H) (tOp (rIxT K) (tVar 11) (tC (.int 1))) (tC .non))) (tC .non) (tOp (rI0 fun i j => .int (i + j)) (tOp (rIxT K) (tVar 11) (tC (.int 1))) (tVar 5))) tNil)) σ H Q := by
  obtain ⟨a, r, fr, h1, h2, h3, q⟩ := h
  obtain ⟨b, e⟩ := r
  refine ⟨_, h1, a, _, 0, _, rfl, rfl, SqT.of h2, rfl, _, h3, b, fr, rfl, rfl, _, h1, a, _, 1, _, rfl, rfl, SqT.of h2, rfl, rfl, _, rfl, ?_⟩
  cases e with
  | none => exact iteT ⟨(by show 2 ≤ sizeLine; decide), fun t ht => q t ht⟩
  | some e => exact iteF ⟨_, h1, a, _, 1, _, rfl, rfl, SqT.of h2, rfl, _, h3, e, fr, rfl, rfl, (by show 2 ≤ sizeLine; decide), fun t ht => q t ht⟩
theorem k6 {qs : Addr} {ns : List Int} (hr : Room 12 (xLaw P w K mg base f cdv A outer s H0 E).A) (F : LawFns P w K mg base T C1 C2) : PS (xLaw P w K mg base f cdv A outer s H0 E) (dK 6) (fun D σ H => ∃ (v : LV) (p : Addr) (rs ss : List Row) (fr l : Int), σ = v.st ∧ LP rs ss fr l ∧ LC K 5 T qs ns p rs ss fr l v H ∧
    ∀ (v' : LV) H', LC K 6 T qs ns p rs ss fr l v' H' → ExtN (off p H) (off p H') → D.nx v'.st H') := by
  have e : dK 6 = (forBody (dLaw 3)).getD 6 (.Pass ⟨0, 0, 0, 0⟩) := rfl
  rw [e]
  refine PS.imp (ps_setLc (i := 13) (te := tLc (iSeqS (tVar 12)) (gName 11) tYes (tMove K) [11]) (own := [("_law_rows", 12)]) (g := gName 12) rfl ndLaw rfl rfl (sw_true rfl rfl rfl (by decide +kernel)) (pi_seqS (pe_tup (pa_cons (pv 3) (pa_cons (pv 4) pa_nil)))) (blkOk_by (own := [("_law_rows", 12)]) (N := nLaw) (sc := defScope sLaw) (by decide +kernel))
      (fun _ _ _ _ _ => pg_name (i := 12) ndLaw rfl (Or.inl rfl)) (fun _ _ _ _ _ => pts_nil)
      (fun _ _ _ _ _ => pe_lc (te := tMove K) (own := [("_law_row", 11)]) (g := gName 11) rfl ndLaw (pi_seqS (pv 12)) (show BlkOk nLaw (relS (lcScope (asgVal ((forBody (dLaw 3)).getD 6 (.Pass ⟨0, 0, 0, 0⟩)))) (defScope sLaw)) (lcScope (lcElt (asgVal ((forBody (dLaw 3)).getD 6 (.Pass ⟨0, 0, 0, 0⟩))))) [("_law_row", 11)] from blkOk_by (by decide +kernel))
        (fun _ _ _ _ _ => pg_name (i := 11) ndLaw rfl (Or.inl rfl)) (fun _ _ _ _ _ => pts_nil)
        (fun _ _ _ _ _ => PE.imp (pe_tup (pa_cons (pe_op op_add (pe_ix ix_tup (pv 11) pe_int (fun _ _ => rfl)) (pv 5)) (pa_cons (pe_ifExp (pt_cmpR op_isN (pe_ix ix_tup (pv 11) pe_int (fun _ _ => rfl)) pe_non (nomark _)) pe_non (pe_op op_add (pe_ix ix_tup (pv 11) pe_int (fun _ _ => rfl)) (pv 5))) pa_nil))) fun σ H Q h => tMove_to h))) fun D σ H h => ?_
  obtain ⟨v, p, rs, ss, fr, l, rfl, lp, c, k⟩ := h
  obtain ⟨q1, hq1, hd1⟩ := c.one (by omega)
  obtain ⟨q2, hq2, hd2⟩ := c.other (by omega)
  have hfr := c.far (by omega)
  refine ⟨_, congrArg some hq1, _, congrArg some hq2, (by show 2 ≤ sizeLine; decide), fun t ht => ?_⟩
  have S1 := Same.new (o := .tup [.ref q1, .ref q2]) ht
  have hsq : Sq (upd H t (.tup [.ref q1, .ref q2])) t [.ref q1, .ref q2] := .inr upd_same
  refine ⟨t, [.ref q1, .ref q2], rfl, hsq, fun J wk D0 hD0 => ?_⟩
  refine lc_dv 2 (fun i => [PyData.list ((move fr rs).map rowD), .list ((move fr ss).map rowD)].take i) hD0 rfl (fun i hi => small1000 (by rw [List.length_take]; simp; omega)) (fun i H3 hi S3 => wk.go i H3 (hsq.eq (Same.refl _) S3) hi) (fun H3 S3 => wk.stop H3 (hsq.eq (Same.refl _) S3)) (fun i H3 y H4 acc N hi S3 ha yl hN hS => ?_) (fun H3 zs S3 hD3 hz => ?_)
  · obtain ⟨rfl, hy⟩ := wk.yld i H3 _ _ (hsq.eq (Same.refl _) S3) yl
    obtain ⟨q, us, rfl, hdq, hlen, hout⟩ : ∃ q us, y = V.ref q ∧ Dv H (.ref q) (.list (us.map rowD)) ∧ us.length ≤ 4 ∧ [PyData.list ((move fr rs).map rowD), .list ((move fr ss).map rowD)].take (i + 1) = [PyData.list ((move fr rs).map rowD), .list ((move fr ss).map rowD)].take i ++ [.list ((move fr us).map rowD)] := by
      match i, hy with
      | 0, h => exact ⟨q1, rs, (Option.some.inj h).symm, hd1.ext off_sub, lp.l1, rfl⟩
      | 1, h => exact ⟨q2, ss, (Option.some.inj h).symm, hd2.ext off_sub, lp.l2, rfl⟩
      | i + 2, h => omega
    have S0 := S1.trans S3
    obtain ⟨_, xs, e1, hs, hxs⟩ := (hdq.ext (Sub.of S0)).sq rfl
    cases e1
    have hxl := hxs.length
    rw [List.length_map] at hxl
    refine ⟨rfl, ?_⟩
    refine yesI (te := tLc (iSeqS (tVar 12)) (gName 11) tYes (tMove K) [11]) ?_
    refine ⟨_, rfl, q, xs, rfl, hs, fun J2 wk2 D2 hD2 => ?_⟩
    refine lc_dv xs.length (fun j => (us.take j).map fun r => rowD (moveR fr r)) hD2 rfl (fun j hj => small1000 (by rw [List.length_map, List.length_take]; omega)) (fun j H5 hj S5 => wk2.go j H5 (hs.eq (Same.refl _) S5) hj) (fun H5 S5 => wk2.stop H5 (hs.eq (Same.refl _) S5)) (fun j H5 y H6 acc2 N2 hj S5 ha2 yl2 hN2 hS2 => ?_) (fun H5 ws S5 hD5 hw => ?_)
    · obtain ⟨rfl, hy2⟩ := wk2.yld j H5 _ _ (hs.eq (Same.refl _) S5) yl2
      obtain ⟨r, ra, hr1, rfl, hra⟩ := rows_at hxs hy2
      refine ⟨rfl, ?_⟩
      unfold tYes
      refine iteT ⟨ra, r, fr, rfl, S5 _ _ hra, congrArg some hfr, fun t2 ht2 => ?_⟩
      refine hN2 _ _ (rowD (moveR fr r)) (Same.new ht2) (Dv.off (zs := acc2) (by rw [upd_ne (ne_of_none ha2 ht2)]; exact ha2) (Dv.mkRow upd_same) (noList_row _)) ?_
      show List.map _ (List.take (j + 1) us) = _
      rw [List.take_add_one, hr1, List.map_append]
      rfl
    · have e3 : us.take xs.length = us := by rw [hxl, List.take_length]
      have hw1 : DvAll (off D2 H5) ws ((us.take xs.length).map fun r => rowD (moveR fr r)) := hw
      rw [e3] at hw1
      have eM : (us.map fun r => rowD (moveR fr r)) = (move fr us).map rowD := by unfold move; rw [List.map_map]; rfl
      rw [eM] at hw1
      have nDD : D2 ≠ D0 := fun z => by rw [z, ha] at hD2; cases hD2
      refine hN _ _ (.list ((move fr us).map rowD)) S5 (.lst (by rw [off_ne nDD]; exact hD5) ?_) hout
      exact (hw1.ext off_sub).off (S5 _ _ ha) (noList_rows _)
  · have S := S1.trans S3
    have st := Stp.same c.bx c.tb S
    have c' := c.step st
    have nD : D0 ≠ p := fun z => by
      obtain ⟨xa, xb, xc, hp⟩ := c.bx
      have := S1 _ _ hp
      rw [← z, hD0] at this
      cases this
    have hz2 : DvAll (off D0 H3) zs [PyData.list ((move fr rs).map rowD), .list ((move fr ss).map rowD)] := hz
    refine k { v with moved := some (.ref D0) } H3 ⟨c'.box, c'.bx, c'.tb, c'.scr, fun _ => c'.one (by omega), fun _ => c'.other (by omega), fun _ => c'.far (by omega), fun _ => c'.last (by omega), fun _ => c'.late (by omega), fun _ => c'.has (by omega), fun _ => c'.more (by omega), fun _ => ⟨D0, rfl, ?_⟩, fun h => by omega⟩ st.ext
    refine .lst (by rw [off_ne nD]; exact hD3) ?_
    cases hz2 with
    | cons a r =>
      cases r with
      | cons b r =>
        cases r
        exact .cons (Dv.offRows st.bx (a.ext off_sub)) (.cons (Dv.offRows st.bx (b.ext off_sub)) .nil)
end
end K7
end

section
set_option Elab.async false
set_option linter.all false
set_option maxRecDepth 100000
set_option maxHeartbeats 4000000
/-! law: repr of the moved rows. -/
namespace K7
open PySem L2 LamX LamV PyProof.Rows
theorem textFrom_le : ∀ (ts : List Str) (k : Nat) (acc : Str) (m : Nat), (∀ t ∈ ts, t.length ≤ m) → (textFrom k acc ts).length ≤ acc.length + ts.length * (m + 2)
  | [], k, acc, m, _ => by show acc.length ≤ _; omega
  | t :: r, k, acc, m, h => by
    have h1 := h t (by simp)
    have ih := textFrom_le r (k + 1) (acc ++ (if k > 0 then ", " else "" : String) ++ t) m (fun x hx => h x (by simp [hx]))
    have e : (textFrom k acc (t :: r)) = textFrom (k + 1) (acc ++ (if k > 0 then ", " else "" : String) ++ t) r := rfl
    rw [e]
    refine Nat.le_trans ih ?_
    rw [strLen_append, strLen_append, List.length_cons, Nat.add_mul, Nat.one_mul]
    have : (Str.ofString (if k > 0 then ", " else "" : String)).length ≤ 2 := by split <;> decide
    omega
theorem listText_le {ts : List Str} {m : Nat} (h : ∀ t ∈ ts, t.length ≤ m) : (listText ts).length ≤ ts.length * (m + 2) + 2 := by
  unfold listText
  rw [strLen_append]
  have := textFrom_le ts 0 "[" m h
  have e1 : (Str.ofString "[").length = 1 := by decide
  have e2 : (Str.ofString "]").length = 1 := by decide
  omega
theorem tupleText2 (a b : Str) : (tupleText [a, b]).length ≤ a.length + b.length + 6 := by
  unfold tupleText
  rw [strLen_append, strLen_append]
  have h := join_length_add [a, b] (by simp)
  have hp : piled [a, b] = (a.length + 2) + (b.length + 2) := by simp [piled]
  have e1 : (Str.ofString "(").length = 1 := by decide
  have e2 : (Str.ofString (if [a, b].length == 1 then ",)" else ")" : String)).length = 1 := by
    show (Str.ofString ")").length = 1
    decide
  omega
theorem small_log {i : Int} (h0 : 0 ≤ i) (h1 : i ≤ 200000000) : i.natAbs.log2 < 1920 := by
  have h2 : i.natAbs < 2 ^ 1920 := Nat.lt_of_le_of_lt (show i.natAbs ≤ 200000000 by omega) (by decide)
  by_cases hz : i.natAbs = 0
  · rw [hz]
    decide
  · exact (Nat.log2_lt hz).mpr h2
/-- rows of small ends -/
def SmallR (r : Row) : Prop := (0 ≤ r.1 ∧ r.1 ≤ 200000000) ∧ ∀ e, r.2 = some e → 0 ≤ e ∧ e ≤ 200000000
theorem opt_shown {o : Option Int} (h : ∀ e, o = some e → 0 ≤ e ∧ e ≤ 200000000) : (optD o).shown.length ≤ 1921 ∧ (optD o).showable = true ∧ (optD o).hasDict = false := by
  cases o with
  | none => exact ⟨by decide, rfl, rfl⟩
  | some e =>
    obtain ⟨a, b⟩ := h e rfl
    refine ⟨?_, ?_, rfl⟩
    · show (PyData.shown (.int e)).length ≤ 1921
      unfold PyData.shown
      exact int_text_len_1921 (small_log a b)
    · show (PyData.showable (.int e)) = true
      unfold PyData.showable
      exact decide_eq_true (small_log a b)
theorem row_shown {r : Row} (h : SmallR r) : (rowD r).shown.length ≤ 3850 ∧ (rowD r).showable = true ∧ (rowD r).hasDict = false := by
  obtain ⟨b, o⟩ := r
  obtain ⟨⟨h1, h2⟩, h3⟩ := h
  obtain ⟨a1, a2, a3⟩ := opt_shown (o := some b) (fun e he => by cases he; exact ⟨h1, h2⟩)
  obtain ⟨b1, b2, b3⟩ := opt_shown (o := o) h3
  have er : rowD (b, o) = .tuple [optD (some b), optD o] := rfl
  rw [er]
  refine ⟨?_, ?_, ?_⟩
  · have e : (PyData.tuple [optD (some b), optD o]).shown = tupleText [(optD (some b)).shown, (optD o).shown] := by simp only [PyData.shown, PyData.shownAll]
    rw [e]
    have := tupleText2 (optD (some b)).shown (optD o).shown
    omega
  · simp only [PyData.showable, PyData.showableAll, a2, b2, Bool.and_true]
  · simp only [PyData.hasDict, PyData.hasDictAll, a3, b3, Bool.or_false]
theorem rows_shown : ∀ {rs : List Row}, (∀ r ∈ rs, SmallR r) → (∀ t ∈ PyData.shownAll (rs.map rowD), t.length ≤ 3850) ∧ (PyData.shownAll (rs.map rowD)).length = rs.length ∧ PyData.showableAll (rs.map rowD) = true ∧ PyData.hasDictAll (rs.map rowD) = false
  | [], _ => ⟨fun t ht => by simp [PyData.shownAll] at ht, rfl, rfl, rfl⟩
  | r :: rs, h => by
    obtain ⟨a1, a2, a3⟩ := row_shown (h r (by simp))
    obtain ⟨b1, b2, b3, b4⟩ := rows_shown (rs := rs) fun x hx => h x (by simp [hx])
    refine ⟨fun t ht => ?_, ?_, ?_, ?_⟩
    · simp only [List.map_cons, PyData.shownAll, List.mem_cons] at ht
      rcases ht with rfl | ht
      · exact a1
      · exact b1 t ht
    · simp only [List.map_cons, PyData.shownAll, List.length_cons, b2]
    · simp only [List.map_cons, PyData.showableAll, a2, b3, Bool.and_true]
    · simp only [List.map_cons, PyData.hasDictAll, a3, b4, Bool.or_false]
theorem move_small {f : Int} {rs : List Row} (c : Canon rs) (b : Bd 90 rs) (f0 : 0 ≤ f) (f1 : f ≤ 101000000) : ∀ r ∈ move f rs, SmallR r := fun x hx => by
  obtain ⟨r, hr, rfl⟩ := List.mem_map.mp hx
  obtain ⟨h1, h2⟩ := c.pos r hr
  obtain ⟨h3, h4⟩ := b r hr
  refine ⟨⟨by simp only [moveR]; omega, by simp only [moveR]; omega⟩, fun e he => ?_⟩
  cases hr2 : r.2 with
  | none => simp [moveR, hr2] at he
  | some y =>
    have := h2 y hr2
    have := h4 y hr2
    simp [moveR, hr2] at he
    omega
theorem moved_shown {rs ss : List Row} {f l : Int} (lp : LP rs ss f l) : (movedD f rs ss).showable = true ∧ (movedD f rs ss).hasDict = false ∧ (movedD f rs ss).depth ≤ 60 ∧ (movedD f rs ss).shown.length ≤ sizeLine := by
  obtain ⟨a1, a2, a3, a4⟩ := rows_shown (move_small lp.c1 lp.b1 lp.f0 lp.f1)
  obtain ⟨b1, b2, b3, b4⟩ := rows_shown (move_small lp.c2 lp.b2 lp.f0 lp.f1)
  have l1 : (move f rs).length ≤ 4 := by unfold move; rw [List.length_map]; exact lp.l1
  have l2 : (move f ss).length ≤ 4 := by unfold move; rw [List.length_map]; exact lp.l2
  have d1 := rows_dep (move f rs)
  have d2 := rows_dep (move f ss)
  have t1 := listText_le a1
  have t2 := listText_le b1
  refine ⟨?_, ?_, ?_, ?_⟩
  · simp only [movedD, PyData.showable, PyData.showableAll, a3, b3, Bool.and_true]
  · simp only [movedD, PyData.hasDict, PyData.hasDictAll, a4, b4, Bool.or_false]
  · simp only [movedD, PyData.depth, PyData.depthAll]
    omega
  · have e : (movedD f rs ss).shown = listText [listText (PyData.shownAll ((move f rs).map rowD)), listText (PyData.shownAll ((move f ss).map rowD))] := by simp only [movedD, PyData.shown, PyData.shownAll]
    rw [e]
    have h := listText_le (ts := [listText (PyData.shownAll ((move f rs).map rowD)), listText (PyData.shownAll ((move f ss).map rowD))]) (m := 20000) (fun t ht => by
      simp only [List.mem_cons, List.not_mem_nil, or_false] at ht
      rcases ht with rfl | rfl
      · rw [a2] at t1
        have := Nat.mul_le_mul_right (3850 + 2) l1
        omega
      · rw [b2] at t2
        have := Nat.mul_le_mul_right (3850 + 2) l2
        omega)
    simp only [List.length_cons, List.length_nil] at h
    exact Nat.le_trans h (by rw [sizeLine_eq]; omega)
section
variable {P : Program} {w : World} {K : PySem.W.Frag} {mg : Str → Option Value} {base : Heap} {C1 C2 : Addr} {T : List (Addr × Str)} {f : Addr} {cdv : Value} {A : Around} {outer : List Env} {s : Shared} {H0 : Hp} {E : XK}
theorem k7 {qs : Addr} {ns : List Int} (hr : Room 12 (xLaw P w K mg base f cdv A outer s H0 E).A) (hg : (xLaw P w K mg base f cdv A outer s H0 E).A.guards = some []) (F : LawFns P w K mg base T C1 C2) : PS (xLaw P w K mg base f cdv A outer s H0 E) (dK 7) (fun D σ H => ∃ (v : LV) (p : Addr) (rs ss : List Row) (fr l : Int), σ = v.st ∧ LP rs ss fr l ∧ LC K 6 T qs ns p rs ss fr l v H ∧
    ∀ (v' : LV), LC K 7 T qs ns p rs ss fr l v' H → D.nx v'.st H) := by
  have e : dK 7 = (forBody (dLaw 3)).getD 7 (.Pass ⟨0, 0, 0, 0⟩) := rfl
  rw [e]
  refine PS.imp (ps_set (i := 14) ndLaw rfl (Or.inl rfl) (pe_callB (cr_repr hg hr.units) (by rfl) F.B.repr b7_repr (pa_cons (pv 13) pa_nil))) fun D σ H h => ?_
  obtain ⟨v, p, rs, ss, fr, l, rfl, lp, c, k⟩ := h
  obtain ⟨q, hq, hd⟩ := c.moved (by omega)
  obtain ⟨h1, h2, h3, h4⟩ := moved_shown lp
  refine ⟨_, congrArg some hq, q, movedD fr rs ss, rfl, (hd.ext off_sub).dp, h1, h2, h3, h4, ?_⟩
  exact k { v with kept := some (.str (movedD fr rs ss).shown) } ⟨c.box, c.bx, c.tb, c.scr, fun _ => c.one (by omega), fun _ => c.other (by omega), fun _ => c.far (by omega), fun _ => c.last (by omega), fun _ => c.late (by omega), fun _ => c.has (by omega), fun _ => c.more (by omega), fun _ => c.moved (by omega), fun _ => rfl⟩
end
end K7
end

section
set_option Elab.async false
set_option linter.all false
set_option maxRecDepth 100000
set_option maxHeartbeats 4000000
/-! law: both and either against the truths. -/
namespace K7
open PySem L2 LamX LamV
theorem _root_.L2.PSs.imp {X : Cx} {sts : List Stmt} {t t' : TS} (h : PSs X sts t) (k : ∀ D σ H, t' D σ H → t D σ H) : PSs X sts t' := ⟨fun pins s σ H D I q => h.run pins s σ H D I (k D σ H q)⟩
/-- [moved row for row in x], x the rows us -/
theorem mv_walk {K : PySem.W.Frag} {x : V} {d : PyData} {us : List Row} {fr : Int} {σ : L2.St} {H1 : Hp} {QD : Addr → Hp → Prop} (hx : Dv H1 x d) (hd : itemsD d = some (us.map rowD)) (hl : us.length ≤ 1000) (hfr : σ[5]? = some (some (.int fr))) (hw : 11 < σ.length)
    (q : ∀ D H2 zs, Same H1 H2 → H1 D = none → H2 D = some (.lst zs) → DvAll (off D H2) zs ((move fr us).map rowD) → QD D H2) :
    ∃ a xs, x = .ref a ∧ Sq H1 a xs ∧ ∀ J, Wk J xs (fun H' => H' a = H1 a) → ∀ D, H1 D = none → ∃ W : Nat → Nat → Hp → Prop, (∃ m, W 0 m (upd H1 D (.lst []))) ∧ ∀ i m H, W i m H →
      (J.stop i H ∧ QD D H) ∨ (J.go i H ∧ ∃ Nx : Hp → Prop, (∀ H', Nx H' → ∃ m', m' < m ∧ W (i + 1) m' H') ∧ ∀ y H', J.yld i H y H' → gName 11 y (wipe σ [11]) H' fun σ2 H2 => wipe σ2 [11] = wipe σ [11] ∧ tYes σ2 H2 fun b H3 =>
        if b = true then tMove K σ2 H3 fun z H4 => ∃ acc, H4 D = some (.lst acc) ∧ acc.length < sizeLine ∧ Nx (upd H4 D (.lst (acc ++ [z]))) else Nx H3) := by
  obtain ⟨a, xs, rfl, hs, hxs⟩ := hx.sq hd
  have hxl := hxs.length
  rw [List.length_map] at hxl
  refine ⟨a, xs, rfl, hs, fun J wk D hD => ?_⟩
  refine lc_dv (QD := fun H => QD D H) xs.length (fun j => (us.take j).map fun r => rowD (moveR fr r)) hD rfl (fun j hj => small1000 (by rw [List.length_map, List.length_take]; omega)) (fun j H5 hj S5 => wk.go j H5 (hs.eq (Same.refl _) S5) hj) (fun H5 S5 => wk.stop H5 (hs.eq (Same.refl _) S5)) (fun j H5 y H6 acc2 N2 hj S5 ha2 yl2 hN2 hS2 => ?_) (fun H5 ws S5 hD5 hw5 => ?_)
  · obtain ⟨rfl, hy2⟩ := wk.yld j H5 _ _ (hs.eq (Same.refl _) S5) yl2
    obtain ⟨r, ra, hr1, rfl, hra⟩ := rows_at hxs hy2
    refine ⟨?_, ?_⟩
    · show ((wipe σ [11]).set 11 (some (V.ref ra))).set 11 none = σ.set 11 none
      show ((σ.set 11 none).set 11 (some (V.ref ra))).set 11 none = σ.set 11 none
      rw [List.set_set, List.set_set]
    · unfold tYes
      refine iteT ⟨ra, r, fr, ?_, S5 _ _ hra, ?_, fun t2 ht2 => ?_⟩
      · show ((σ.set 11 none).set 11 (some (V.ref ra)))[11]? = _
        rw [List.set_set, List.getElem?_set_self hw]
      · show ((σ.set 11 none).set 11 (some (V.ref ra)))[5]? = _
        rw [List.set_set, List.getElem?_set_ne (by decide)]
        exact hfr
      · refine hN2 _ _ (rowD (moveR fr r)) (Same.new ht2) (Dv.off (zs := acc2) (by rw [upd_ne (ne_of_none ha2 ht2)]; exact ha2) (Dv.mkRow upd_same) (noList_row _)) ?_
        show List.map _ (List.take (j + 1) us) = _
        rw [List.take_add_one, hr1, List.map_append]
        rfl
  · have e3 : us.take xs.length = us := by rw [hxl, List.take_length]
    have hw1 : DvAll (off D H5) ws ((us.take xs.length).map fun r => rowD (moveR fr r)) := hw5
    rw [e3] at hw1
    have eM : (us.map fun r => rowD (moveR fr r)) = (move fr us).map rowD := by unfold move; rw [List.map_map]; rfl
    rw [eM] at hw1
    exact q D H5 ws S5 hD hD5 hw1
def TW (b : Bool) (rs ss : List Row) : List Bool := (List.range 91).map fun i : Nat => if b then memR rs (i : Int) && memR ss (i : Int) else memR rs (i : Int) || memR ss (i : Int)
theorem TW_len (b : Bool) (rs ss : List Row) : (TW b rs ss).length = 91 := by unfold TW; simp
theorem TW_get (b : Bool) (rs ss : List Row) {i : Nat} (h : i ≤ 90) : (TW b rs ss).getD i false = if b then memR rs i && memR ss i else memR rs i || memR ss i := by
  unfold TW
  rw [List.getD_eq_getElem?_getD, List.getElem?_map, List.getElem?_range (by omega)]
  rfl
def nmW (b : Bool) : Str := if b then "both" else "either"
theorem rows_len (T : List Bool) : (rowsOf T).length ≤ T.length + 1 := by
  unfold rowsOf
  have := rowFold_len T T.length
  split
  · omega
  · rw [List.length_append]
    simp only [List.length_cons, List.length_nil]
    omega
/-- has[t] and more[t] if name == 'both' else has[t] or more[t] -/
def tTruth (b : Bool) (rs ss : List Row) : TE := fun σ H Q => ∃ a1 a2, ∃ i : Nat, i < 91 ∧ σ[15]? = some (some (.str (nmW b))) ∧ σ[9]? = some (some (.ref a1)) ∧ σ[10]? = some (some (.ref a2)) ∧ σ[8]? = some (some (.int (i : Int))) ∧ H a1 = some (.lst ((Tr rs).map V.bl)) ∧ H a2 = some (.lst ((Tr ss).map V.bl)) ∧ Q (.bl ((TW b rs ss).getD i false)) H
def tTruthE : TE := fun σ H Q => ∃ (b : Bool) (rs ss : List Row), tTruth b rs ss σ H Q
theorem tr_at (rs : List Row) {i : Nat} (h : i < 91) : ((Tr rs).map V.bl)[i]? = some (V.bl (memR rs i)) := by
  rw [List.getElem?_map]
  unfold Tr
  rw [List.getElem?_map, List.getElem?_range (by omega)]
  rfl
theorem tTruth_to {K : PySem.W.Frag} {b : Bool} {rs ss : List Row} {σ : L2.St} {H : Hp} {Q : VK} (h : tTruth b rs ss σ H Q) :
    tIf (tTest (tOp rEq (tVar 15) (tC (.str "both")))) (tAndV (tOp (rIxL K) (tVar 9) (tVar 8)) (tOp (rIxL K) (tVar 10) (tVar 8))) (tOrV (tOp (rIxL K) (tVar 9) (tVar 8)) (tOp (rIxL K) (tVar 10) (tVar 8))) σ H Q := by
  obtain ⟨a1, a2, i, hi, h1, h2, h3, h4, h5, h6, q⟩ := h
  rw [TW_get b rs ss (by omega)] at q
  refine ⟨_, h1, rfl, _, rfl, ?_⟩
  cases b with
  | true =>
    have e : decide (V.str (nmW true) = V.str "both") = true := decide_eq_true rfl
    rw [e]
    refine iteT ⟨_, h2, _, h4, a1, _, _, _, rfl, rfl, SqL.of h5, atI_nat (tr_at rs hi), _, rfl, ?_⟩
    cases hm : memR rs i with
    | true => rw [hm] at q; exact iteT ⟨_, h3, _, h4, a2, _, _, _, rfl, rfl, SqL.of h6, atI_nat (tr_at ss hi), q⟩
    | false => rw [hm] at q; exact iteF q
  | false =>
    have e : decide (V.str (nmW false) = V.str "both") = false := decide_eq_false (by
      intro z
      have := V.str.inj z
      revert this
      decide)
    rw [e]
    refine iteF ⟨_, h2, _, h4, a1, _, _, _, rfl, rfl, SqL.of h5, atI_nat (tr_at rs hi), _, rfl, ?_⟩
    cases hm : memR rs i with
    | true => rw [hm] at q; exact iteT q
    | false => rw [hm] at q; exact iteF ⟨_, h3, _, h4, a2, _, _, _, rfl, rfl, SqL.of h6, atI_nat (tr_at ss hi), q⟩
section
variable {P : Program} {w : World} {K : PySem.W.Frag} {mg : Str → Option Value} {base : Heap} {C1 C2 : Addr} {T : List (Addr × Str)} {f : Addr} {cdv : Value} {A : Around} {outer : List Env} {s : Shared} {H0 : Hp} {E : XK}
/-- the truths' list in H -/
theorem LC.hasL {n : Nat} {qs : Addr} {ns : List Int} {p : Addr} {rs ss : List Row} {fr l : Int} {v : LV} {H : Hp} (c : LC K n T qs ns p rs ss fr l v H) (h : 4 ≤ n) : ∃ q, v.has = some (.ref q) ∧ H q = some (.lst ((Tr rs).map V.bl)) := by
  obtain ⟨q, h1, h2⟩ := c.has h
  cases h2 with
  | lst e r =>
    rw [r.to_bls] at e
    exact ⟨q, h1, off_le _ _ e⟩
theorem LC.moreL {n : Nat} {qs : Addr} {ns : List Int} {p : Addr} {rs ss : List Row} {fr l : Int} {v : LV} {H : Hp} (c : LC K n T qs ns p rs ss fr l v H) (h : 5 ≤ n) : ∃ q, v.more = some (.ref q) ∧ H q = some (.lst ((Tr ss).map V.bl)) := by
  obtain ⟨q, h1, h2⟩ := c.more h
  cases h2 with
  | lst e r =>
    rw [r.to_bls] at e
    exact ⟨q, h1, off_le _ _ e⟩
theorem LC.free {n : Nat} {qs : Addr} {ns : List Int} {p : Addr} {rs ss : List Row} {fr l : Int} {v v' : LV} {H : Hp} (c : LC K n T qs ns p rs ss fr l v H) (h1 : v'.box = v.box) (h2 : v'.script = v.script) (h3 : v'.one = v.one) (h4 : v'.other = v.other) (h5 : v'.far = v.far) (h6 : v'.last = v.last) (h7 : v'.late = v.late) (h8 : v'.has = v.has) (h9 : v'.more = v.more) (h10 : v'.moved = v.moved) (h11 : v'.kept = v.kept) : LC K n T qs ns p rs ss fr l v' H :=
  ⟨h1 ▸ c.box, c.bx, c.tb, ⟨h2 ▸ c.scr.1, c.scr.2⟩, fun h => h3 ▸ c.one h, fun h => h4 ▸ c.other h, fun h => h5 ▸ c.far h, fun h => h6 ▸ c.last h, fun h => h7 ▸ c.late h, fun h => h8 ▸ c.has h, fun h => h9 ▸ c.more h, fun h => h10 ▸ c.moved h, fun h => h11 ▸ c.kept h⟩
def tK8 (K : PySem.W.Frag) (T : List (Addr × Str)) (qs : Addr) (ns : List Int) : TS := fun D σ H => ∃ (b : Bool) (rs ss : List Row) (v : LV) (p : Addr) (fr l : Int) (q : Addr), σ = v.st ∧ LP rs ss fr l ∧ LC K 7 T qs ns p rs ss fr l v H ∧
    v.name = some (.str (nmW b)) ∧ v.told = some (.ref q) ∧ Dv (off p H) (.ref q) (.tuple ((move fr (rowsOf (TW b rs ss))).map rowD)) ∧ ∀ (v' : LV) H', LC K 7 T qs ns p rs ss fr l v' H' → Stp p T H H' → D.nx v'.st H'
theorem k8b {qs : Addr} {ns : List Int} (hr : Room 12 (xLaw P w K mg base f cdv A outer s H0 E).A) (F : LawFns P w K mg base T C1 C2) : PSs (xLaw P w K mg base f cdv A outer s H0 E) (forBody (dK 8)) (tK8 K T qs ns) := by
  have e : forBody (dK 8) = forBody ((forBody (dLaw 3)).getD 8 (.Pass ⟨0, 0, 0, 0⟩)) := rfl
  rw [e]
  refine PSs.imp (pss_cons (ps_setLc (i := 17) (te := tTruthE) (own := [("_law_tick", 8)]) (g := gName 8) rfl ndLaw rfl rfl (sw_true rfl rfl rfl (by decide +kernel)) (pi_range1 (by rfl) F.B.range (pa_cons (pe_op op_add (pv 6) pe_int) pa_nil)) (blkOk_by (own := [("_law_tick", 8)]) (N := nLaw) (sc := defScope sLaw) (by decide +kernel))
      (fun _ _ _ _ _ => pg_name (i := 8) ndLaw rfl (Or.inl rfl)) (fun _ _ _ _ _ => pts_nil)
      (fun _ _ _ _ _ => PE.imp (pe_ifExp (pt_cmpR op_eq (pv 15) pe_str (nomark _)) (pe_and (pe_ix ix_list (pv 9) (pv 8) (fun _ _ => rfl)) (pe_one (pe_ix ix_list (pv 10) (pv 8) (fun _ _ => rfl)))) (pe_or (pe_ix ix_list (pv 9) (pv 8) (fun _ _ => rfl)) (pe_one (pe_ix ix_list (pv 10) (pv 8) (fun _ _ => rfl))))) fun σ H Q h => by obtain ⟨b, rs, ss, h⟩ := h; exact tTruth_to h))
    (pss_cons (ps_set (i := 18) ndLaw rfl (Or.inl rfl) (pe_f F.rowOf hr (by decide) (by rfl) (pa_cons (pv 17) (pa_cons (pv 6) pa_nil))))
    (pss_one (ps_if (pt_cmpR (op_neD hr.units) (pv 16) (pe_callTy cr_tupL (by rfl) F.B.tuple boot_tuple (pa_cons (pe_lc (te := tMove K) (own := [("_law_row", 11)]) (g := gName 11) rfl ndLaw (pi_seqS (pv 18)) (blkOk_by (own := [("_law_row", 11)]) (N := nLaw) (sc := defScope sLaw) (by decide +kernel))
        (fun _ _ _ _ _ => pg_name (i := 11) ndLaw rfl (Or.inl rfl)) (fun _ _ _ _ _ => pts_nil)
        (fun _ _ _ _ _ => PE.imp (pe_tup (pa_cons (pe_op op_add (pe_ix ix_tup (pv 11) pe_int (fun _ _ => rfl)) (pv 5)) (pa_cons (pe_ifExp (pt_cmpR op_isN (pe_ix ix_tup (pv 11) pe_int (fun _ _ => rfl)) pe_non (nomark _)) pe_non (pe_op op_add (pe_ix ix_tup (pv 11) pe_int (fun _ _ => rfl)) (pv 5))) pa_nil))) fun σ H Q h => tMove_to h)) pa_nil)) (nomark _)) (pss_one (ps_ret pe_bl)) pss_nil)))) fun D σ H h => ?_
  obtain ⟨b, rs, ss, v, p, fr, l, q, rfl, lp, c, hnm, htl, hdv, k⟩ := h
  obtain ⟨qh, hh1, hh2⟩ := c.hasL (by omega)
  obtain ⟨qm, hm1, hm2⟩ := c.moreL (by omega)
  refine ⟨_, congrArg some (c.last (by omega)), 90, 1, rfl, rfl, 91, rfl, by decide, by decide, fun D0 hD0 => ?_⟩
  refine lc_truths (TW b rs ss) (TW_len b rs ss) hD0 (fun i H1 acc N hi S ha hN => ?_) (fun H1 S hdT => ?_)
  · refine ⟨rfl, ?_⟩
    unfold tYes
    refine iteT ⟨b, rs, ss, qh, qm, i, hi, congrArg some hnm, congrArg some hh1, congrArg some hm1, by rw [Int.zero_add]; rfl, S _ _ hh2, S _ _ hm2, hN H1 _ (Same.refl _) rfl⟩
  · have s1 := Stp.same c.bx c.tb S
    have c1 := c.step s1
    refine ⟨_, rfl, _, congrArg some (c.last (by omega)), .ref D0, TW b rs ss, 90, rfl, hdT, TW_len b rs ss, by decide, fun t2 H2 S2 _ hd2 => ?_⟩
    have s2 := Stp.same c1.bx c1.tb S2
    have c2 := c1.step s2
    have hlen : (rowsOf (TW b rs ss)).length ≤ 1000 := by have := rows_len (TW b rs ss); rw [TW_len] at this; omega
    have hdv2 : Dv (off p H2) (.ref q) (.tuple ((move fr (rowsOf (TW b rs ss))).map rowD)) := hdv.ext (Sub.ofN (s1.trans s2).ext)
    refine ⟨_, congrArg some htl, ?_⟩
    refine ⟨_, rfl, mv_walk (σ := ({ v with truths := some (.ref D0), due := some (.ref t2) } : LV).st) (us := rowsOf (TW b rs ss)) (fr := fr) hd2 rfl hlen (congrArg some (c.far (by omega))) (by show 11 < 24; decide) fun D1 H3 zs S3 hD1 hD3 hz => ?_⟩
    refine ⟨D1, zs, rfl, .inl ⟨SqL.of hD3, fun t3 ht3 => ?_⟩⟩
    have S4 := Same.new (o := .tup zs) ht3
    have s3 := Stp.same c2.bx c2.tb (S3.trans S4)
    refine ne_rows (us := move fr (rowsOf (TW b rs ss))) ((hdv2.ext off_sub).ext (Sub.of (S3.trans S4))) (.tup upd_same ((hz.ext off_sub).ext (Sub.of S4))) ⟨_, rfl, iteF ?_⟩
    have c3 := c2.step s3
    exact k { v with truths := some (.ref D0), due := some (.ref t2) } _ (c3.free rfl rfl rfl rfl rfl rfl rfl rfl rfl rfl rfl) ((s1.trans s2).trans s3)
end
end K7
end

section
set_option Elab.async false
set_option linter.all false
set_option maxRecDepth 100000
set_option maxHeartbeats 4000000
/-! law: the loop over both and either. -/
namespace K7
open PySem L2 LamX LamV
section
variable {P : Program} {w : World} {K : PySem.W.Frag} {mg : Str → Option Value} {base : Heap} {C1 C2 : Addr} {T : List (Addr × Str)} {f : Addr} {cdv : Value} {A : Around} {outer : List Env} {s : Shared} {H0 : Hp} {E : XK}
/-- the moved rows in H -/
theorem LC.movedL {n : Nat} {qs : Addr} {ns : List Int} {p : Addr} {rs ss : List Row} {fr l : Int} {v : LV} {H : Hp} (c : LC K n T qs ns p rs ss fr l v H) (h : 6 ≤ n) : ∃ q x1 x2, v.moved = some (.ref q) ∧ H q = some (.lst [x1, x2]) ∧ Dv H x1 (.list ((move fr rs).map rowD)) ∧ Dv H x2 (.list ((move fr ss).map rowD)) := by
  obtain ⟨q, h1, h2⟩ := c.moved h
  cases h2 with
  | lst e r =>
    cases r with
    | cons a r =>
      cases r with
      | cons b r =>
        cases r
        exact ⟨q, _, _, h1, off_le _ _ e, a.ext off_sub, b.ext off_sub⟩
theorem move_len (fr : Int) (rs : List Row) : (move fr rs).length = rs.length := List.length_map _
theorem k8 {qs : Addr} {ns : List Int} (hr : Room 12 (xLaw P w K mg base f cdv A outer s H0 E).A) (F : LawFns P w K mg base T C1 C2) : PS (xLaw P w K mg base f cdv A outer s H0 E) (dK 8) (fun D σ H => ∃ (v : LV) (p : Addr) (rs ss : List Row) (fr l : Int), σ = v.st ∧ LP rs ss fr l ∧ LC K 7 T qs ns p rs ss fr l v H ∧
    ∀ (v' : LV) H', LC K 7 T qs ns p rs ss fr l v' H' → Stp p T H H' → D.nx v'.st H') := by
  have hb := k8b (f := f) (cdv := cdv) (A := A) (outer := outer) (s := s) (H0 := H0) (E := E) (qs := qs) (ns := ns) hr F
  have e : dK 8 = (forBody (dLaw 3)).getD 8 (.Pass ⟨0, 0, 0, 0⟩) := rfl
  rw [e] at hb ⊢
  refine PS.imp (ps_for (passes_of rfl) rfl (pi_seqS (pe_tup (pa_cons (pe_tup (pa_cons pe_str (pa_cons (pe_fk F.bothK hr (by decide) (by rfl) passN (pk_cons (pe_ix ix_list (pv 13) pe_int (fun _ _ => rfl)) (pk_cons (pe_ix ix_list (pv 13) pe_int (fun _ _ => rfl)) pk_nil))) pa_nil)))
      (pa_cons (pe_tup (pa_cons pe_str (pa_cons (pe_fk F.eithK hr (by decide) (by rfl) passN (pk_cons (pe_ix ix_list (pv 13) pe_int (fun _ _ => rfl)) (pk_cons (pe_ix ix_list (pv 13) pe_int (fun _ _ => rfl)) pk_nil))) pa_nil))) pa_nil))))
    (pg_tup rfl (pgs_cons (pg_name (i := 15) ndLaw rfl (Or.inr rfl)) (pgs_cons (pg_name (i := 16) ndLaw rfl (Or.inl rfl)) pgs_nil))) hb) fun D σ H h => ?_
  obtain ⟨v, p, rs, ss, fr, l, rfl, lp, c, k⟩ := h
  obtain ⟨q, x1, x2, hq, hql, d1, d2⟩ := c.movedL (by omega)
  have mc1 := move_canon lp.f0 lp.c1
  have mc2 := move_canon lp.f0 lp.c2
  have n1 : needRows (.list ((move fr rs).map rowD)) = some (move fr rs) := mc1.need rfl
  have n2 : needRows (.list ((move fr ss).map rowD)) = some (move fr ss) := mc2.need rfl
  have p1 : plainRows (.list ((move fr rs).map rowD)) := plain_rows (rs := move fr rs) (by rw [move_len]; have := lp.l1; omega) rfl
  have p2 : plainRows (.list ((move fr ss).map rowD)) := plain_rows (rs := move fr ss) (by rw [move_len]; have := lp.l2; omega) rfl
  refine ⟨_, congrArg some hq, q, _, 1, _, rfl, rfl, SqL.of hql, rfl, _, congrArg some hq, q, _, 0, _, rfl, rfl, SqL.of hql, rfl, rfl, ?_⟩
  refine ⟨x1, x2, _, _, rfl, d1, d2, p1, p2, fun rs' ss' hrs hss t1 H1 S1 hd1 => ?_, (fun z => (nnone n1 z).elim), (fun z => (nnone n2 z).elim)⟩
  obtain rfl := Option.some.inj (hrs.symm.trans n1)
  obtain rfl := Option.some.inj (hss.symm.trans n2)
  have e1 : bothRows (move fr rs) (move fr ss) = move fr (rowsOf (TW true rs ss)) := both_due lp.f0 lp.c1 lp.c2 lp.b1 lp.b2 (TW_len true rs ss) fun i hi => by rw [TW_get true rs ss hi]; rfl
  rw [e1] at hd1
  have s1 := Stp.same c.bx c.tb S1
  have c1 := c.step s1
  refine ⟨(by show 2 ≤ sizeLine; decide), fun a1 ha1 => ?_⟩
  have S2 := Same.new (o := .tup [.str "both", .ref t1]) ha1
  have s2 := Stp.same c1.bx c1.tb S2
  have c2 := c1.step s2
  have ql2 := S2 _ _ (S1 _ _ hql)
  have d12 := (d1.ext (Sub.of (S1.trans S2)))
  have d22 := (d2.ext (Sub.of (S1.trans S2)))
  refine ⟨_, congrArg some hq, q, _, 0, _, rfl, rfl, SqL.of ql2, rfl, _, congrArg some hq, q, _, 1, _, rfl, rfl, SqL.of ql2, rfl, rfl, ?_⟩
  refine ⟨x1, x2, _, _, rfl, d12, d22, p1, p2, c2.tb, fun rs' ss' hrs hss ms hpm hsm t2 H3 E3 T3 hd3 => ?_, (fun z => (nnone n1 z).elim), (fun z => (nnone n2 z).elim)⟩
  obtain rfl := Option.some.inj (hrs.symm.trans n1)
  obtain rfl := Option.some.inj (hss.symm.trans n2)
  have e2 : eithRows ms = move fr (rowsOf (TW false rs ss)) := eith_due lp.f0 lp.c1 lp.c2 lp.b1 lp.b2 (TW_len false rs ss) (fun i hi => by rw [TW_get false rs ss hi]; rfl) hpm hsm
  rw [e2] at hd3
  have s3 := Stp.extN c2.bx E3 T3
  have c3 := c2.step s3
  refine ⟨(by show 2 ≤ sizeLine; decide), fun a2 ha2 => ⟨(by show 2 ≤ sizeLine; decide), fun a3 ha3 => ?_⟩⟩
  have S4 := Same.new (o := .tup [.str "either", .ref t2]) ha2
  have S5 := Same.new (o := .tup [.ref a1, .ref a2]) ha3
  have s4 := Stp.same c3.bx c3.tb (S4.trans S5)
  have c4 := c3.step s4
  have hA3 := S5.trans (Same.refl _)
  generalize hHz : upd (upd H3 a2 (.tup [.str "either", .ref t2])) a3 (.tup [.ref a1, .ref a2]) = Hz at *
  have z3 : Hz a3 = some (.tup [.ref a1, .ref a2]) := by rw [← hHz]; exact upd_same
  have z2 : Hz a2 = some (.tup [.str "either", .ref t2]) := S5 _ _ upd_same
  have z1 : Hz a1 = some (.tup [.str "both", .ref t1]) := S5 _ _ (S4 _ _ (E3 _ _ upd_same (fun _ z => by cases z)))
  obtain ⟨xa, xb, xc, hpz⟩ := c4.bx
  have np : ∀ {a : Addr} {xs : List V}, Hz a = some (.tup xs) → off p Hz a = some (.tup xs) := fun h => by
    rw [off_ne fun z => ?_]
    · exact h
    · rw [z, hpz] at h; cases h
  have dA : Dv (off p Hz) (.ref t1) (.tuple ((move fr (rowsOf (TW true rs ss))).map rowD)) := by
    refine Dv.off hpz ?_ (by simp [noList, noList_rows])
    exact ((hd1.ext (Sub.of S2)).ext (Sub.ofN E3)).ext (Sub.of (S4.trans S5))
  have dB : Dv (off p Hz) (.ref t2) (.tuple ((move fr (rowsOf (TW false rs ss))).map rowD)) := by
    refine Dv.off hpz ?_ (by simp [noList, noList_rows])
    exact hd3.ext (Sub.of (S4.trans S5))
  have sAll := ((s1.trans s2).trans s3).trans s4
  refine ⟨a3, [.ref a1, .ref a2], rfl, .inr z3, fun J wk => ?_⟩
  have at3 : ∀ {H'}, Stp p T Hz H' → H' a3 = Hz a3 := fun st => by rw [z3]; exact off_le _ _ (st.ext _ _ (np z3) (fun _ z => by cases z))
  refine for_by 2 (fun i σ H' => ∃ v' : LV, σ = v'.st ∧ LC K 7 T qs ns p rs ss fr l v' H' ∧ Stp p T Hz H') ⟨v, rfl, c4, ⟨c4.bx, ExtN.refl _, c4.tb⟩⟩ (fun i σ H' hi ⟨v', _, _, st⟩ => wk.go i H' (at3 st) hi) (fun σ H' ⟨v', _, _, st⟩ => wk.stop H' (at3 st)) (fun i σ H' y H'' hi q yl => ?_) (fun σ H' q => ?_)
  · obtain ⟨v', rfl, c5, st⟩ := q
    obtain ⟨rfl, hy⟩ := wk.yld i H' _ _ (at3 st) yl
    obtain ⟨b, ai, ti, rfl, hai, hdi⟩ : ∃ (b : Bool) (ai ti : Addr), y = V.ref ai ∧ off p Hz ai = some (.tup [.str (nmW b), .ref ti]) ∧ Dv (off p Hz) (.ref ti) (.tuple ((move fr (rowsOf (TW b rs ss))).map rowD)) := by
      match i, hy with
      | 0, h => exact ⟨true, a1, t1, (Option.some.inj h).symm, np z1, dA⟩
      | 1, h => exact ⟨false, a2, t2, (Option.some.inj h).symm, np z2, dB⟩
      | i + 2, h => omega
    have hai' := off_le _ _ (st.ext _ _ hai (fun _ z => by cases z))
    refine ⟨ai, _, rfl, SqT.of hai', rfl, _, _, rfl, _, _, rfl, rfl, ?_⟩
    refine ⟨b, rs, ss, { v' with name := some (.str (nmW b)), told := some (.ref ti) }, p, fr, l, ti, rfl, lp, c5.free rfl rfl rfl rfl rfl rfl rfl rfl rfl rfl rfl, rfl, rfl, hdi.ext (Sub.ofN st.ext), fun v2 H2 c6 st2 => ?_⟩
    exact ⟨v2, rfl, c6, st.trans st2⟩
  · obtain ⟨v', rfl, c5, st⟩ := q
    exact k v' H' c5 (sAll.trans st)
end
end K7
end

section
set_option Elab.async false
set_option linter.all false
set_option maxRecDepth 100000
set_option maxHeartbeats 4000000
/-! law: shortened ends. -/
namespace K7
open PySem L2 LamX LamV
/-- the truths' list is at work -/
structure TrS (K : PySem.W.Frag) (T : List (Addr × Str)) (qs : Addr) (ns : List Int) (p : Addr) (rs ss : List Row) (fr l : Int) (Hb : Hp) (D0 : Addr) (Ti : List Bool) (v : LV) (H : Hp) : Prop where
  lc : LC K 7 T qs ns p rs ss fr l v Hb
  st : Stp p T Hb H
  new : Hb D0 = none
  tr : v.truths = some (.ref D0)
  at_ : H D0 = some (.lst (Ti.map V.bl))
  len : Ti.length = 91
section
variable {P : Program} {w : World} {K : PySem.W.Frag} {mg : Str → Option Value} {base : Heap} {C1 C2 : Addr} {T : List (Addr × Str)} {f : Addr} {cdv : Value} {A : Around} {outer : List Env} {s : Shared} {H0 : Hp} {E : XK}
def tHasAt (rs : List Row) : TE := fun σ H Q => ∃ a1, ∃ i : Nat, i < 91 ∧ σ[9]? = some (some (.ref a1)) ∧ σ[8]? = some (some (.int (i : Int))) ∧ H a1 = some (.lst ((Tr rs).map V.bl)) ∧ Q (.bl ((Tr rs).getD i false)) H
def tHasE : TE := fun σ H Q => ∃ rs, tHasAt rs σ H Q
theorem tHasE_to {K : PySem.W.Frag} {σ : L2.St} {H : Hp} {Q : VK} (h : tHasE σ H Q) : tAndV (tOp (rIxL K) (tVar 9) (tVar 8)) (tOp (rI0 fun i j => .bl (decide (j ≤ i))) (tVar 8) (tC (.int 0))) σ H Q := by
  obtain ⟨rs, a1, i, hi, h2, h4, h5, q⟩ := h
  rw [Tr_get rs (by omega)] at q
  refine ⟨_, h2, _, h4, a1, _, _, _, rfl, rfl, SqL.of h5, atI_nat (tr_at rs hi), _, rfl, ?_⟩
  cases hm : memR rs i with
  | true =>
    rw [hm] at q
    refine iteT ⟨_, h4, i, 0, rfl, rfl, ?_⟩
    have : decide ((0 : Int) ≤ (i : Int)) = true := decide_eq_true (by omega)
    show Q (V.bl (decide ((0 : Int) ≤ (i : Int)))) H
    rw [this]
    exact q
  | false => rw [hm] at q; exact iteF q
theorem k9 {qs : Addr} {ns : List Int} (F : LawFns P w K mg base T C1 C2) : PS (xLaw P w K mg base f cdv A outer s H0 E) (dK 9) (fun D σ H => ∃ (v : LV) (p : Addr) (rs ss : List Row) (fr l : Int), σ = v.st ∧ LP rs ss fr l ∧ LC K 7 T qs ns p rs ss fr l v H ∧
    ∀ (v' : LV) D0 H', TrS K T qs ns p rs ss fr l H D0 (Tr rs) v' H' → D.nx v'.st H') := by
  have e : dK 9 = (forBody (dLaw 3)).getD 9 (.Pass ⟨0, 0, 0, 0⟩) := rfl
  rw [e]
  refine PS.imp (ps_setLc (i := 17) (te := tHasE) (own := [("_law_tick", 8)]) (g := gName 8) rfl ndLaw rfl rfl (sw_true rfl rfl rfl (by decide +kernel)) (pi_range1 (by rfl) F.B.range (pa_cons (pe_op op_add (pv 6) pe_int) pa_nil)) (blkOk_by (own := [("_law_tick", 8)]) (N := nLaw) (sc := defScope sLaw) (by decide +kernel))
      (fun _ _ _ _ _ => pg_name (i := 8) ndLaw rfl (Or.inl rfl)) (fun _ _ _ _ _ => pts_nil)
      (fun _ _ _ _ _ => PE.imp (pe_and (pe_ix ix_list (pv 9) (pv 8) (fun _ _ => rfl)) (pe_one (pe_cmpR op_ge (pv 8) pe_int (nomark _)))) fun σ H Q h => tHasE_to h)) fun D σ H h => ?_
  obtain ⟨v, p, rs, ss, fr, l, rfl, lp, c, k⟩ := h
  obtain ⟨qh, hh1, hh2⟩ := c.hasL (by omega)
  refine ⟨_, congrArg some (c.last (by omega)), 90, 1, rfl, rfl, 91, rfl, by decide, by decide, fun D0 hD0 => ?_⟩
  refine lc_truths (Tr rs) (Tr_len rs) hD0 (fun i H1 acc N hi S ha hN => ?_) (fun H1 S hdT => ?_)
  · refine ⟨rfl, ?_⟩
    unfold tYes
    exact iteT ⟨rs, qh, i, hi, congrArg some hh1, by rw [Int.zero_add]; rfl, S _ _ hh2, hN H1 _ (Same.refl _) rfl⟩
  · cases hdT with
    | lst hx r =>
      rw [r.to_bls] at hx
      exact k { v with truths := some (.ref D0) } D0 H1 ⟨c.free rfl rfl rfl rfl rfl rfl rfl rfl rfl rfl rfl, Stp.same c.bx c.tb S, hD0, rfl, hx, Tr_len rs⟩
theorem k11 {qs : Addr} {ns : List Int} (hr : Room 12 (xLaw P w K mg base f cdv A outer s H0 E).A) (F : LawFns P w K mg base T C1 C2) : PS (xLaw P w K mg base f cdv A outer s H0 E) (dK 11) (fun D σ H => ∃ (v : LV) (p : Addr) (rs ss : List Row) (fr l : Int) (Hb : Hp) (D0 : Addr) (Ti : List Bool), σ = v.st ∧ TrS K T qs ns p rs ss fr l Hb D0 Ti v H ∧
    ∀ (v' : LV) q H', LC K 7 T qs ns p rs ss fr l v' H' → Stp p T Hb H' → v'.due = some (.ref q) → Dv (off p H') (.ref q) (.tuple ((move fr (rowsOf Ti)).map rowD)) → D.nx v'.st H') := by
  have e : dK 11 = (forBody (dLaw 3)).getD 11 (.Pass ⟨0, 0, 0, 0⟩) := rfl
  rw [e]
  refine PS.imp (ps_set (i := 18) ndLaw rfl (Or.inl rfl) (pe_callTy cr_tupL (by rfl) F.B.tuple boot_tuple (pa_cons (pe_lc (te := tMove K) (own := [("_law_row", 11)]) (g := gName 11) rfl ndLaw (pi_seqS (pe_f F.rowOf hr (by decide) (by rfl) (pa_cons (pv 17) (pa_cons (pv 6) pa_nil)))) (blkOk_by (own := [("_law_row", 11)]) (N := nLaw) (sc := defScope sLaw) (by decide +kernel))
        (fun _ _ _ _ _ => pg_name (i := 11) ndLaw rfl (Or.inl rfl)) (fun _ _ _ _ _ => pts_nil)
        (fun _ _ _ _ _ => PE.imp (pe_tup (pa_cons (pe_op op_add (pe_ix ix_tup (pv 11) pe_int (fun _ _ => rfl)) (pv 5)) (pa_cons (pe_ifExp (pt_cmpR op_isN (pe_ix ix_tup (pv 11) pe_int (fun _ _ => rfl)) pe_non (nomark _)) pe_non (pe_op op_add (pe_ix ix_tup (pv 11) pe_int (fun _ _ => rfl)) (pv 5))) pa_nil))) fun σ H Q h => tMove_to h)) pa_nil))) fun D σ H h => ?_
  obtain ⟨v, p, rs, ss, fr, l, Hb, D0, Ti, rfl, t, k⟩ := h
  have c := t.lc.step t.st
  have hdT : Dv H (.ref D0) (.list (Ti.map PyData.bool)) := .lst t.at_ (DvAll.bls Ti)
  have hlen : (rowsOf Ti).length ≤ 1000 := by have := rows_len Ti; rw [t.len] at this; omega
  refine ⟨_, congrArg some t.tr, _, congrArg some (c.last (by omega)), .ref D0, Ti, 90, rfl, hdT, t.len, by decide, fun t2 H2 S2 _ hd2 => ?_⟩
  refine mv_walk (σ := v.st) (us := rowsOf Ti) (fr := fr) hd2 rfl hlen (congrArg some (c.far (by omega))) (by show 11 < 24; decide) fun D1 H3 zs S3 hD1 hD3 hz => ?_
  refine ⟨D1, zs, rfl, .inl ⟨SqL.of hD3, fun t3 ht3 => ?_⟩⟩
  have S4 := Same.new (o := .tup zs) ht3
  have s2 := Stp.same c.bx c.tb (S2.trans (S3.trans S4))
  have c2 := c.step s2
  obtain ⟨xa, xb, xc, hp⟩ := c2.bx
  refine k { v with due := some (.ref t3) } t3 _ (c2.free rfl rfl rfl rfl rfl rfl rfl rfl rfl rfl rfl) (t.st.trans s2) rfl (Dv.off hp (.tup upd_same ((hz.ext off_sub).ext (Sub.of S4))) (by simp [noList, noList_rows]))
theorem k12 {qs : Addr} {ns : List Int} (hr : Room 12 (xLaw P w K mg base f cdv A outer s H0 E).A) (hg : (xLaw P w K mg base f cdv A outer s H0 E).A.guards = some []) (F : LawFns P w K mg base T C1 C2) : PS (xLaw P w K mg base f cdv A outer s H0 E) (dK 12) (fun D σ H => ∃ (v : LV) (p : Addr) (rs ss : List Row) (fr l : Int) (q : Addr) (Ti : List Bool), σ = v.st ∧ LP rs ss fr l ∧ LC K 7 T qs ns p rs ss fr l v H ∧
    v.due = some (.ref q) ∧ Dv (off p H) (.ref q) (.tuple ((move fr (rowsOf Ti)).map rowD)) ∧ Ti.length = 91 ∧ (∀ i : Nat, i ≤ 90 → Ti.getD i false = memR (rs.map (cutR l)) i) ∧ ∀ H', LC K 7 T qs ns p rs ss fr l v H' → Stp p T H H' → D.nx v.st H') := by
  have e : dK 12 = (forBody (dLaw 3)).getD 12 (.Pass ⟨0, 0, 0, 0⟩) := rfl
  rw [e]
  refine PS.imp (ps_if (pw_or (pt_cmpR (op_neD hr.units) (pe_fk F.shortK hr (by decide) (by rfl) passN (pk_cons (pe_ix ix_list (pv 13) pe_int (fun _ _ => rfl)) (pk_cons (pv 7) pk_nil))) (pv 18) (nomark _))
      (pw_or1 (pt_cmpR op_ne (pe_callB (cr_repr hg hr.units) (by rfl) F.B.repr b7_repr (pa_cons (pv 13) pa_nil)) (pv 14) (nomark _)))).pt (pss_one (ps_ret pe_bl)) pss_nil) fun D σ H h => ?_
  obtain ⟨v, p, rs, ss, fr, l, q, Ti, rfl, lp, c, hdue, hdv, hTl, hTi, k⟩ := h
  obtain ⟨qm, x1, x2, hq, hql, d1, d2⟩ := c.movedL (by omega)
  have mc1 := move_canon lp.f0 lp.c1
  have n1 : needRows (.list ((move fr rs).map rowD)) = some (move fr rs) := mc1.need rfl
  have p1 : plainRows (.list ((move fr rs).map rowD)) := plain_rows (rs := move fr rs) (by rw [move_len]; have := lp.l1; omega) rfl
  refine ⟨_, congrArg some hq, qm, _, 0, _, rfl, rfl, SqL.of hql, rfl, _, congrArg some (c.late (by omega)), rfl, ?_⟩
  refine ⟨x1, .int l, _, .int l, rfl, d1, .int l, p1, fun rs' l' hrs hl _ t1 H1 S1 hd1 => ?_, (fun z => (nnone n1 z).elim), (fun z => ?_)⟩
  · obtain rfl := Option.some.inj (hrs.symm.trans n1)
    cases hl
    have e1 : shortRows (move fr rs) l = move fr (rowsOf Ti) := short_due lp.f0 lp.d0 lp.c1 lp.b1 hTl hTi
    rw [e1] at hd1
    have s1 := Stp.same c.bx c.tb S1
    have c1 := c.step s1
    refine ⟨_, congrArg some hdue, ?_⟩
    refine ne_rows (us := move fr (rowsOf Ti)) hd1 ((hdv.ext (Sub.ofN s1.ext)).ext off_sub) ⟨_, rfl, iteF ?_⟩
    obtain ⟨qk, hqk, hdk⟩ := c1.moved (by omega)
    obtain ⟨g1, g2, g3, g4⟩ := moved_shown lp
    refine ⟨_, congrArg some hqk, qk, movedD fr rs ss, rfl, (hdk.ext off_sub).dp, g1, g2, g3, g4, _, congrArg some (c1.kept (by omega)), rfl, _, rfl, ?_⟩
    have ev : (!decide (V.str (movedD fr rs ss).shown = V.str (movedD fr rs ss).shown)) = false := by rw [decide_eq_true rfl]; rfl
    rw [ev]
    exact iteF (k H1 c1 s1)
  · simp only [isNumD, decide_eq_false_iff_not] at z
    exact absurd lp.d0 z
end
end K7
end

section
set_option Elab.async false
set_option linter.all false
set_option maxRecDepth 100000
set_option maxHeartbeats 4000000
/-! law: the truths cleared for shortened ends. -/
namespace K7
open PySem L2 LamX LamV
/-- the truths with the ticks from a on, n of them, cleared -/
def clr (Ti : List Bool) (a n : Nat) : List Bool := (List.range n).foldl (fun t j => t.set (a + j) false) Ti
theorem clr_len (Ti : List Bool) (a : Nat) : ∀ n, (clr Ti a n).length = Ti.length
  | 0 => rfl
  | n + 1 => by
    unfold clr
    rw [List.range_succ, List.foldl_append]
    show ((clr Ti a n).set (a + n) false).length = _
    rw [List.length_set, clr_len Ti a n]
theorem clr_succ (Ti : List Bool) (a n : Nat) : clr Ti a (n + 1) = (clr Ti a n).set (a + n) false := by
  unfold clr
  rw [List.range_succ, List.foldl_append]
  rfl
theorem getD_set (l : List Bool) (i j : Nat) : (l.set i false).getD j false = (l.getD j false && !decide (i = j)) := by
  rw [List.getD_eq_getElem?_getD, List.getD_eq_getElem?_getD]
  by_cases h : i = j
  · subst h
    rw [decide_eq_true rfl]
    by_cases hl : i < l.length
    · rw [List.getElem?_set_self hl]
      simp
    · rw [List.getElem?_eq_none (by rw [List.length_set]; omega)]
      simp
  · rw [List.getElem?_set_ne h, decide_eq_false h]
    simp
theorem clr_get (Ti : List Bool) (a : Nat) (i : Nat) : ∀ n, (clr Ti a n).getD i false = (Ti.getD i false && !(decide (a ≤ i) && decide (i < a + n)))
  | 0 => by
    have : (decide (a ≤ i) && decide (i < a + 0)) = false := by
      rw [Bool.and_eq_false_iff]
      by_cases h : a ≤ i
      · exact .inr (decide_eq_false (by omega))
      · exact .inl (decide_eq_false h)
    rw [this]
    simp [clr]
  | n + 1 => by
    rw [clr_succ, getD_set, clr_get Ti a i n]
    cases Ti.getD i false with
    | false => rfl
    | true =>
      simp only [Bool.true_and]
      rw [Bool.eq_iff_iff]
      simp only [Bool.and_eq_true, Bool.not_eq_true', Bool.and_eq_false_iff, decide_eq_false_iff_not]
      omega
/-- one row's clearing, as the loop does it -/
def clrRow (l : Int) (Ti : List Bool) (r : Row) : List Bool := match r.2 with
  | none => Ti
  | some e => clr Ti (maxI r.1 (e - l)).toNat (e - maxI r.1 (e - l)).toNat
theorem clrRow_len (l : Int) (Ti : List Bool) (r : Row) : (clrRow l Ti r).length = Ti.length := by
  unfold clrRow
  split
  · rfl
  · exact clr_len _ _ _
theorem clrRow_get {l : Int} {Ti : List Bool} {r : Row} (h0 : 0 ≤ r.1) (he : ∀ e, r.2 = some e → r.1 < e) (hl : 0 ≤ l) (i : Nat) : (clrRow l Ti r).getD i false = (Ti.getD i false && !clears l r i) := by
  unfold clrRow clears
  cases h : r.2 with
  | none => simp
  | some e =>
    simp only
    rw [clr_get]
    have hm := (maxI_le (i := r.1) (j := e - l)).1
    have hlt := he e h
    have hme : maxI r.1 (e - l) ≤ e := by rw [maxI_lt]; omega
    congr 2
    rw [Bool.eq_iff_iff]
    simp only [Bool.and_eq_true, decide_eq_true_eq]
    omega
theorem clr_all {l : Int} (hl : 0 ≤ l) : ∀ (rs : List Row) (Ti : List Bool), (∀ r ∈ rs, 0 ≤ r.1 ∧ ∀ e, r.2 = some e → r.1 < e) → ∀ i : Nat, (rs.foldl (clrRow l) Ti).getD i false = (Ti.getD i false && !(rs.any fun r => clears l r i))
  | [], Ti, _, i => by simp
  | r :: rs, Ti, h, i => by
    obtain ⟨h1, h2⟩ := h r (by simp)
    rw [List.foldl_cons, clr_all hl rs _ (fun x hx => h x (by simp [hx])) i, clrRow_get h1 h2 hl, List.any_cons]
    cases Ti.getD i false <;> cases clears l r i <;> simp
theorem clr_all_len (l : Int) : ∀ (rs : List Row) (Ti : List Bool), (rs.foldl (clrRow l) Ti).length = Ti.length
  | [], _ => rfl
  | r :: rs, Ti => by rw [List.foldl_cons, clr_all_len l rs, clrRow_len]
section
variable {P : Program} {w : World} {K : PySem.W.Frag} {mg : Str → Option Value} {base : Heap} {C1 C2 : Addr} {T : List (Addr × Str)} {f : Addr} {cdv : Value} {A : Around} {outer : List Env} {s : Shared} {H0 : Hp} {E : XK}
theorem TrS.set {qs : Addr} {ns : List Int} {p : Addr} {rs ss : List Row} {fr l : Int} {Hb : Hp} {D0 : Addr} {Ti Ti' : List Bool} {v : LV} {H : Hp} (t : TrS K T qs ns p rs ss fr l Hb D0 Ti v H) (hl : Ti'.length = 91) : TrS K T qs ns p rs ss fr l Hb D0 Ti' v (upd H D0 (.lst (Ti'.map V.bl))) := by
  obtain ⟨a, b, c, hp⟩ := t.st.bx
  obtain ⟨a1, b1, c1, hp1⟩ := t.lc.bx
  have nD : D0 ≠ p := (ne_of_none hp1 t.new).symm
  refine ⟨t.lc, ⟨⟨a, b, c, by rw [upd_ne (Ne.symm nD)]; exact hp⟩, fun x o hx hn => ?_, ?_⟩, t.new, t.tr, upd_same, hl⟩
  · have hxD : x ≠ D0 := fun z => by
      have := off_le _ _ hx
      rw [z, t.new] at this
      cases this
    have := t.st.ext x o hx hn
    have hxp : x ≠ p := fun z => by rw [z, off_at] at hx; cases hx
    rw [off_ne hxp] at this ⊢
    rw [upd_ne hxD]
    exact this
  · refine Tabs.ofOff (p := D0) ?_
    rw [off_upd]
    exact Tabs.offL t.st.tb t.at_
theorem TrS.free {qs : Addr} {ns : List Int} {p : Addr} {rs ss : List Row} {fr l : Int} {Hb : Hp} {D0 : Addr} {Ti : List Bool} {v v' : LV} {H : Hp} (t : TrS K T qs ns p rs ss fr l Hb D0 Ti v H) (h1 : v'.box = v.box) (h2 : v'.script = v.script) (h3 : v'.one = v.one) (h4 : v'.other = v.other) (h5 : v'.far = v.far) (h6 : v'.last = v.last) (h7 : v'.late = v.late) (h8 : v'.has = v.has) (h9 : v'.more = v.more) (h10 : v'.moved = v.moved) (h11 : v'.kept = v.kept) (h12 : v'.truths = v.truths) : TrS K T qs ns p rs ss fr l Hb D0 Ti v' H :=
  ⟨t.lc.free h1 h2 h3 h4 h5 h6 h7 h8 h9 h10 h11, t.st, t.new, h12 ▸ t.tr, t.at_, t.len⟩
/-- (row[1] or 0) -/
def tOr0 : TE := fun σ H Q => ∃ (a : Addr) (r : Row), σ[11]? = some (some (.ref a)) ∧ H a = some (.tup [.int r.1, optV r.2]) ∧ (∀ e, r.2 = some e → e ≠ 0) ∧ Q (.int (r.2.getD 0)) H
theorem tOr0_to {K : PySem.W.Frag} {σ : L2.St} {H : Hp} {Q : VK} (h : tOr0 σ H Q) : tOrT K (tOp (rIxT K) (tVar 11) (tC (.int 1))) (tC (.int 0)) σ H Q := by
  obtain ⟨a, r, h1, h2, h3, q⟩ := h
  obtain ⟨b, e⟩ := r
  refine ⟨_, h1, a, _, 1, _, rfl, rfl, SqT.of h2, rfl, ?_⟩
  cases e with
  | none => exact ⟨false, rfl, iteF q⟩
  | some e =>
    have := h3 e rfl
    exact ⟨true, (by simp [TruV, optV, this]), iteT q⟩
theorem k10 {qs : Addr} {ns : List Int} (F : LawFns P w K mg base T C1 C2) : PS (xLaw P w K mg base f cdv A outer s H0 E) (dK 10) (fun D σ H => ∃ (v : LV) (p : Addr) (rs ss : List Row) (fr l : Int) (Hb : Hp) (D0 : Addr), σ = v.st ∧ LP rs ss fr l ∧ TrS K T qs ns p rs ss fr l Hb D0 (Tr rs) v H ∧
    ∀ (v' : LV) Ti H', TrS K T qs ns p rs ss fr l Hb D0 Ti v' H' → (∀ i : Nat, i ≤ 90 → Ti.getD i false = memR (rs.map (cutR l)) i) → D.nx v'.st H') := by
  have e : dK 10 = (forBody (dLaw 3)).getD 10 (.Pass ⟨0, 0, 0, 0⟩) := rfl
  rw [e]
  refine PS.imp (ps_for (passes_of rfl) rfl (pi_seqS (pv 3)) (pg_name (i := 11) ndLaw rfl (Or.inl rfl))
    (pss_one (ps_for (passes_of rfl) rfl (pi_range2 (by rfl) F.B.range (pa_cons (pe_callB (call_max2 rfl) (by rfl) F.B.max b7_max (pa_cons (pe_ix ix_tup (pv 11) pe_int (fun _ _ => rfl)) (pa_cons (pe_op op_sub (PE.imp (pe_orT (pe_ix ix_tup (pv 11) pe_int (fun _ _ => rfl)) (pe_one pe_int)) fun σ H Q h => tOr0_to h) (pv 7)) pa_nil)))
        (pa_cons (PE.imp (pe_orT (pe_ix ix_tup (pv 11) pe_int (fun _ _ => rfl)) (pe_one pe_int)) fun σ H Q h => tOr0_to h) pa_nil))) (pg_name (i := 8) ndLaw rfl (Or.inr rfl))
      (pss_one (ps_asg pe_bl (pg_sub (pv 17) (pv 8) set_list)))))) fun D σ H h => ?_
  obtain ⟨v, p, rs, ss, fr, l, Hb, D0, rfl, lp, t, k⟩ := h
  obtain ⟨q1, hq1, hd1⟩ := t.lc.one (by omega)
  obtain ⟨xs, hqx, hxs⟩ : ∃ xs, off p Hb q1 = some (.lst xs) ∧ DvAll (off p Hb) xs (rs.map rowD) := by
    cases hd1 with
    | lst h r => exact ⟨_, h, r⟩
  have hxl := hxs.length
  rw [List.length_map] at hxl
  have atq : ∀ {H'}, Stp p T Hb H' → H' q1 = some (.lst xs) := fun st => off_le _ _ (st.ext _ _ hqx (fun _ z => by cases z))
  refine ⟨_, congrArg some hq1, q1, xs, rfl, .inl (atq t.st), fun J wk => ?_⟩
  refine for_by xs.length (fun i σ H' => ∃ v' : LV, σ = v'.st ∧ TrS K T qs ns p rs ss fr l Hb D0 ((rs.take i).foldl (clrRow l) (Tr rs)) v' H') ⟨v, rfl, t⟩ (fun i σ H' hi ⟨v', _, t'⟩ => wk.go i H' (by rw [atq t.st, atq t'.st]) hi) (fun σ H' ⟨v', _, t'⟩ => wk.stop H' (by rw [atq t.st, atq t'.st])) (fun i σ H' y H'' hi q yl => ?_) (fun σ H' q => ?_)
  · obtain ⟨v', rfl, t'⟩ := q
    obtain ⟨rfl, hy⟩ := wk.yld i H' _ _ (by rw [atq t.st, atq t'.st]) yl
    obtain ⟨r, ra, hr1, rfl, hra0⟩ := rows_at hxs hy
    have hra : ∀ {G}, Stp p T Hb G → G ra = some (.tup [.int r.1, optV r.2]) := fun st => off_le _ _ (st.ext _ _ hra0 (fun _ z => by cases z))
    have hmem := List.mem_of_getElem? hr1
    obtain ⟨r0, re⟩ := lp.c1.pos r hmem
    obtain ⟨rb, rbe⟩ := lp.b1 r hmem
    have hne : ∀ e, r.2 = some e → e ≠ 0 := fun e he => by have := re e he; omega
    generalize hTc : (rs.take i).foldl (clrRow l) (Tr rs) = Tc at t'
    have es : (rs.take (i + 1)).foldl (clrRow l) (Tr rs) = clrRow l Tc r := by
      rw [List.take_add_one, hr1, List.foldl_append, hTc]
      rfl
    have hm1 := maxI_le (i := r.1) (j := r.2.getD 0 - l)
    have hbig : r.2.getD 0 ≤ 90 := by
      cases h : r.2 with
      | none => simp
      | some e => exact rbe e h
    have hlow : 0 ≤ r.2.getD 0 := by
      cases h : r.2 with
      | none => simp
      | some e => have := re e h; show 0 ≤ e; omega
    have hmx : maxI r.1 (r.2.getD 0 - l) ≤ 90 := by rw [maxI_lt]; have := lp.d0; omega
    refine ⟨_, rfl, ra, _, 0, _, rfl, rfl, SqT.of (hra t'.st), rfl, ra, r, rfl, hra t'.st, hne, _, congrArg some (t'.lc.late (by omega)), r.2.getD 0, l, rfl, rfl, r.1, r.2.getD 0 - l, rfl, ra, r, rfl, hra t'.st, hne, maxI r.1 (r.2.getD 0 - l), r.2.getD 0, rfl, ⟨by omega, by omega, by omega, by omega⟩, ?_⟩
    generalize hmm : maxI r.1 (r.2.getD 0 - l) = m at hm1 hmx ⊢
    refine for_by (r.2.getD 0 - m).toNat (fun j σ H' => ∃ v' : LV, σ = v'.st ∧ TrS K T qs ns p rs ss fr l Hb D0 (clr Tc m.toNat j) v' H') ⟨{ v' with row := some (.ref ra) }, rfl, t'.free rfl rfl rfl rfl rfl rfl rfl rfl rfl rfl rfl rfl⟩ (fun j σ H' hj _ => hj) (fun σ H' _ => Nat.le_refl _) (fun j σ H2 y H3 hj q yl => ?_) (fun σ H2 q => ?_)
    · obtain ⟨v2, rfl, t2⟩ := q
      obtain ⟨rfl, rfl⟩ := yl
      have hix : ixN ((clr Tc m.toNat j).map V.bl).length (m + (j : Int)) = some (m.toNat + j) := by
        rw [List.length_map, t2.len]
        unfold ixN
        rw [if_pos (by omega), if_pos (by omega)]
        congr 1
        omega
      refine ⟨_, congrArg some t2.tr, _, rfl, D0, _, m + (j : Int), m.toNat + j, rfl, rfl, t2.at_, hix, ?_⟩
      have em : ((clr Tc m.toNat j).map V.bl).set (m.toNat + j) (V.bl false) = (clr Tc m.toNat (j + 1)).map V.bl := by
        rw [clr_succ, List.map_set]
      rw [em]
      exact ⟨{ v2 with tick := some (.int (m + (j : Int))) }, rfl, (t2.set (by rw [clr_len, ← clr_len Tc m.toNat j]; exact t2.len)).free rfl rfl rfl rfl rfl rfl rfl rfl rfl rfl rfl rfl⟩
    · obtain ⟨v2, rfl, t2⟩ := q
      refine ⟨v2, rfl, ?_⟩
      rw [es]
      have ec : clrRow l Tc r = clr Tc m.toNat (r.2.getD 0 - m).toNat := by
        unfold clrRow
        cases h : r.2 with
        | none =>
          have : ((none : Option Int).getD 0 - m).toNat = 0 := by simp; omega
          rw [this]
          rfl
        | some e =>
          rw [h] at hmm
          simp only [Option.getD_some] at hmm ⊢
          rw [hmm]
      rw [ec]
      exact t2
  · obtain ⟨v', rfl, t'⟩ := q
    have e3 : rs.take xs.length = rs := by rw [hxl, List.take_length]
    rw [e3] at t'
    refine k v' _ H' t' fun i hi => ?_
    rw [clr_all lp.d0 rs _ lp.c1.pos i, Tr_get rs hi]
    exact cut_truth lp.c1 lp.d0
end
end K7
end

section
set_option Elab.async false
set_option linter.all false
set_option maxRecDepth 100000
set_option maxHeartbeats 4000000
/-! law: which stretch has a tick. -/
namespace K7
open PySem L2 LamX LamV
def numsV (rs : List Row) (t : Int) : List V := ((hits rs t).map fun n : Nat => (n : Int)).map V.int
section
variable {P : Program} {w : World} {K : PySem.W.Frag} {mg : Str → Option Value} {base : Heap} {C1 C2 : Addr} {T : List (Addr × Str)} {f : Addr} {cdv : Value} {A : Around} {outer : List Env} {s : Shared} {H0 : Hp} {E : XK}
theorem k13 {qs : Addr} {ns : List Int} (hr : Room 12 (xLaw P w K mg base f cdv A outer s H0 E).A) (F : LawFns P w K mg base T C1 C2) : PS (xLaw P w K mg base f cdv A outer s H0 E) (dK 13) (fun D σ H => ∃ (v : LV) (p : Addr) (rs ss : List Row) (fr l : Int), σ = v.st ∧ LC K 7 T qs ns p rs ss fr l v H ∧
    ∀ (v' : LV) t H', 0 ≤ t → t < 60 → v'.tick = some (.int t) → LC K 7 T qs ns p rs ss fr l v' H' → Stp p T H H' → D.nx v'.st H') := by
  have e : dK 13 = (forBody (dLaw 3)).getD 13 (.Pass ⟨0, 0, 0, 0⟩) := rfl
  rw [e]
  refine PS.imp (ps_set (i := 8) ndLaw rfl (Or.inr rfl) (pe_f F.take hr (by decide) (by rfl) (pa_cons (pv 2) (pa_cons pe_int pa_nil)))) fun D σ H h => ?_
  obtain ⟨v, p, rs, ss, fr, l, rfl, c, k⟩ := h
  refine ⟨_, congrArg some c.box, p, 60, rfl, c.bx, by decide, by decide, fun d a b c' h0 h1 => ?_⟩
  have s1 := Stp.box c.bx c.tb a b c'
  exact k { v with tick := some (.int d) } d _ h0 h1 rfl ((c.step s1).free rfl rfl rfl rfl rfl rfl rfl rfl rfl rfl rfl) s1
theorem k14 {qs : Addr} {ns : List Int} (hr : Room 12 (xLaw P w K mg base f cdv A outer s H0 E).A) (F : LawFns P w K mg base T C1 C2) : PS (xLaw P w K mg base f cdv A outer s H0 E) (dK 14) (fun D σ H => ∃ (v : LV) (p : Addr) (rs ss : List Row) (fr l t : Int), σ = v.st ∧ rs.length ≤ 4 ∧ LC K 7 T qs ns p rs ss fr l v H ∧ v.tick = some (.int t) ∧
    ∀ (v' : LV) q H', v'.tick = some (.int t) → v'.number = some (.ref q) → H' q = some (.lst (numsV rs t)) → LC K 7 T qs ns p rs ss fr l v' H' → Stp p T H H' → D.nx v'.st H') := by
  have e : dK 14 = (forBody (dLaw 3)).getD 14 (.Pass ⟨0, 0, 0, 0⟩) := rfl
  rw [e]
  refine PS.imp (ps_setLc (i := 19) (tt := tHas 11 8) (own := [("_law_at", 20), ("_law_row", 11)]) (g := gTup K 2 (gCons (gName 20) (gCons (gName 11) gNil))) rfl ndLaw rfl rfl (sw_true rfl rfl rfl (by decide +kernel))
      (pi_enumS (by rfl) F.B.enumerate (pa_cons (pv 3) pa_nil)) (blkOk_by (own := [("_law_at", 20), ("_law_row", 11)]) (N := nLaw) (sc := defScope sLaw) (by decide +kernel))
      (fun _ _ _ _ _ => pg_tup rfl (pgs_cons (pg_name (i := 20) ndLaw rfl (Or.inl rfl)) (pgs_cons (pg_name (i := 11) ndLaw rfl (Or.inl rfl)) pgs_nil)))
      (fun _ _ _ _ _ => pts_one (PT.imp (pw_and (pt_cmpR op_le (pe_ix ix_tup (pv 11) pe_int (fun _ _ => rfl)) (pv 8) (nomark _)) (pw_and1 (pw_or (pt_cmpR op_isN (pe_ix ix_tup (pv 11) pe_int (fun _ _ => rfl)) pe_non (nomark _)) (pw_or1 (pt_cmpR op_lt (pv 8) (pe_ix ix_tup (pv 11) pe_int (fun _ _ => rfl)) (nomark _)))).pt)).pt fun σ H Q h => tHas_to h))
      (fun _ _ _ _ _ => pv 20)) fun D σ H h => ?_
  obtain ⟨v, p, rs, ss, fr, l, t, rfl, hl4, c, htk, k⟩ := h
  obtain ⟨q1, hq1, hd1⟩ := c.one (by omega)
  obtain ⟨_, xs, ea, hs, hxs⟩ := (hd1.ext off_sub).sq rfl
  cases ea
  have hxl := hxs.length
  rw [List.length_map] at hxl
  refine ⟨_, congrArg some hq1, q1, xs, rfl, hs, fun J wk D0 hD0 => ?_⟩
  refine lc_dv xs.length (fun j => hitsTo rs t j) hD0 rfl (fun j hj => Nat.lt_of_le_of_lt (hitsTo_len rs t j) (small1000 (by omega))) (fun j H3 hj S3 => wk.go j H3 (hs.eq (Same.refl _) S3) hj) (fun H3 S3 => wk.stop H3 (hs.eq (Same.refl _) S3)) (fun j H3 y H4 acc N hj S3 ha yl hN hS => ?_) (fun H3 zs S3 hD3 hz => ?_)
  · obtain ⟨T0, u, rfl, hT, rfl, hv'⟩ := wk.yld j H3 _ _ (hs.eq (Same.refl _) S3) yl
    obtain ⟨r, ra, hr1, rfl, hra⟩ := rows_at hxs hv'
    have S4 := Same.new (o := .tup [.int (j : Nat), .ref ra]) hT
    have eh : hit rs t j = has1 r t := by unfold hit; rw [hr1]
    have es := hitsTo_succ rs t j
    rw [eh] at es
    refine ⟨T0, _, rfl, SqT.of upd_same, rfl, _, _, rfl, _, _, rfl, rfl, rfl, ?_⟩
    refine ⟨ra, r, t, rfl, S4 _ _ (S3 _ _ hra), congrArg some htk, ?_⟩
    refine ite2 (fun z => ⟨_, rfl, ?_⟩) (fun z => ?_)
    · rw [if_pos z] at es
      exact hN _ _ _ S4 (.int _) es
    · rw [if_neg z] at es
      exact hS _ S4 es
  · have ez : zs = numsV rs t := by
      refine DvAll.to_intl (H := off D0 H3) ?_
      rw [List.map_map]
      have hz1 : DvAll (off D0 H3) zs (hitsTo rs t xs.length) := hz
      rw [hxl] at hz1
      exact hz1
    rw [ez] at hD3
    have s1 := Stp.same c.bx c.tb S3
    exact k { v with number := some (.ref D0) } D0 H3 htk rfl hD3 ((c.step s1).free rfl rfl rfl rfl rfl rfl rfl rfl rfl rfl rfl) s1
theorem numsD (rs : List Row) (t : Int) (G : Hp) : DvAll G (numsV rs t) (((hits rs t).map fun n : Nat => (n : Int)).map PyData.int) := DvAll.ints _
theorem ints_lay : ∀ l : List Int, PyData.canLayAll0 (l.map PyData.int) = true ∧ PyData.depthAll (l.map PyData.int) = 0
  | [] => ⟨rfl, by simp [PyData.depthAll]⟩
  | i :: l => by
    obtain ⟨a, b⟩ := ints_lay l
    simp only [List.map_cons, PyData.canLayAll0, PyData.canLay0, a, PyData.depthAll, PyData.depth, b]
    simp
theorem shaped_ints (l : List Int) : SeqAt.shaped (.list (l.map PyData.int)) = true := by
  obtain ⟨a, b⟩ := ints_lay l
  simp [SeqAt.shaped, PyData.canLay0, a, PyData.depth, b]
theorem scal_opt (a b : Option Int) : scal (optV a) (optV b) = true := by
  cases a <;> cases b <;> rfl
theorem k15 {qs : Addr} {ns : List Int} (hr : Room 12 (xLaw P w K mg base f cdv A outer s H0 E).A) (F : LawFns P w K mg base T C1 C2) : PS (xLaw P w K mg base f cdv A outer s H0 E) (dK 15) (fun D σ H => ∃ (v : LV) (p : Addr) (rs ss : List Row) (fr l t : Int) (q : Addr), σ = v.st ∧ LP rs ss fr l ∧ 0 ≤ t ∧ LC K 7 T qs ns p rs ss fr l v H ∧ v.tick = some (.int t) ∧
    v.number = some (.ref q) ∧ H q = some (.lst (numsV rs t)) ∧ ∀ H', LC K 7 T qs ns p rs ss fr l v H' → Stp p T H H' → D.nx v.st H') := by
  have e : dK 15 = (forBody (dLaw 3)).getD 15 (.Pass ⟨0, 0, 0, 0⟩) := rfl
  rw [e]
  refine PS.imp (ps_if (pt_cmpR op_ne (pe_fk F.roomK hr (by decide) (by rfl) passN (pk_cons (pe_ix ix_list (pv 13) pe_int (fun _ _ => rfl)) (pk_cons (pe_op op_add (pv 8) (pv 5)) pk_nil)))
      (pe_ifExp (pt_cmpR (op_neD hr.units) (pv 19) (pe_lst pa_nil) (nomark _)) (pe_ix ix_list (pv 19) pe_int (fun _ _ => rfl)) pe_non) (nomark _)) (pss_one (ps_ret pe_bl)) pss_nil) fun D σ H h => ?_
  obtain ⟨v, p, rs, ss, fr, l, t, q, rfl, lp, h0, c, htk, hnm, hql, k⟩ := h
  obtain ⟨qm, x1, x2, hq, hqm, d1, d2⟩ := c.movedL (by omega)
  have n1 : needRows (.list ((move fr rs).map rowD)) = some (move fr rs) := (move_canon lp.f0 lp.c1).need rfl
  have p1 : plainRows (.list ((move fr rs).map rowD)) := plain_rows (rs := move fr rs) (by rw [move_len]; have := lp.l1; omega) rfl
  have hf0 := lp.f0
  refine ⟨_, congrArg some hq, qm, _, 0, _, rfl, rfl, SqL.of hqm, rfl, _, congrArg some htk, _, congrArg some (c.far (by omega)), t, fr, rfl, rfl, rfl, ?_⟩
  refine ⟨x1, .int (t + fr), _, .int (t + fr), rfl, d1, .int _, p1, fun rs' i hrs hi _ H1 S1 => ?_, (fun z => (nnone n1 z).elim), (fun _ _ z => ?_)⟩
  · obtain rfl := Option.some.inj (hrs.symm.trans n1)
    cases hi
    rw [room_move]
    refine ⟨_, congrArg some hnm, Nat.zero_le _, fun M hM => ?_⟩
    have S2 := Same.new (o := .lst []) hM
    have s1 := Stp.same c.bx c.tb (S1.trans S2)
    have c1 := c.step s1
    have hql2 := S2 _ _ (S1 _ _ hql)
    refine ⟨.list (((hits rs t).map fun n : Nat => (n : Int)).map PyData.int), .list [], (Dv.lst hql2 (numsD rs t _)).dp, (Dv.lst upd_same .nil).dp, shaped_ints _, shaped_nil, _, rfl, ?_⟩
    rw [eqv_nil]
    unfold roomAt
    cases hh : hits rs t with
    | nil =>
      refine iteF ⟨rfl, _, rfl, ?_⟩
      exact iteF (k _ c1 s1)
    | cons n ls =>
      unfold numsV at hql2
      rw [hh] at hql2
      refine iteT ⟨_, congrArg some hnm, q, _, 0, .int n, rfl, rfl, SqL.of hql2, atI_nat (j := 0) rfl, rfl, _, rfl, ?_⟩
      have ev : (!decide (optV (some (n : Int)) = V.int (n : Int))) = false := by
        show (!decide (V.int (n : Int) = V.int (n : Int))) = false
        rw [vint_eq, decide_eq_true rfl]
        rfl
      rw [ev]
      exact iteF (k _ c1 s1)
  · simp only [isNumD, decide_eq_false_iff_not] at z
    exact absurd (show 0 ≤ t + fr by omega) z
end
end K7
end

section
set_option Elab.async false
set_option linter.all false
set_option maxRecDepth 100000
set_option maxHeartbeats 4000000
/-! law: free at a tick; the drawn ticks. -/
namespace K7
open PySem L2 LamX LamV PyProof.Rows
section
variable {P : Program} {w : World} {K : PySem.W.Frag} {mg : Str → Option Value} {base : Heap} {C1 C2 : Addr} {T : List (Addr × Str)} {f : Addr} {cdv : Value} {A : Around} {outer : List Env} {s : Shared} {H0 : Hp} {E : XK}
theorem k16 {qs : Addr} {ns : List Int} (hr : Room 12 (xLaw P w K mg base f cdv A outer s H0 E).A) (F : LawFns P w K mg base T C1 C2) : PS (xLaw P w K mg base f cdv A outer s H0 E) (dK 16) (fun D σ H => ∃ (v : LV) (p : Addr) (rs ss : List Row) (fr l t : Int), σ = v.st ∧ LP rs ss fr l ∧ 0 ≤ t ∧ LC K 7 T qs ns p rs ss fr l v H ∧ v.tick = some (.int t) ∧
    ∀ (v' : LV) q H', v'.tick = some (.int t) → v'.told = some (.ref q) → H' q = some (.lst [.bl (memR rs t), .bl (memR rs 90)]) → LC K 7 T qs ns p rs ss fr l v' H' → Stp p T H H' → D.nx v'.st H') := by
  have e : dK 16 = (forBody (dLaw 3)).getD 16 (.Pass ⟨0, 0, 0, 0⟩) := rfl
  rw [e]
  refine PS.imp (ps_set (i := 16) ndLaw rfl (Or.inl rfl) (pe_lst (pa_cons (pe_fk F.freeK hr (by decide) (by rfl) passN (pk_cons (pe_ix ix_list (pv 13) pe_int (fun _ _ => rfl)) (pk_cons (pe_op op_add (pv 8) (pv 5)) pk_nil)))
      (pa_cons (pe_fx F.free hr (by decide) (by rfl) L2.takes0 (fun _ _ _ _ h => h) (pa_cons (pe_ix ix_list (pv 13) pe_int (fun _ _ => rfl)) (pa_cons (pe_op op_pow pe_int pe_int) pa_nil))) pa_nil)))) fun D σ H h => ?_
  obtain ⟨v, p, rs, ss, fr, l, t, rfl, lp, h0, c, htk, k⟩ := h
  obtain ⟨qm, x1, x2, hq, hqm, d1, d2⟩ := c.movedL (by omega)
  have n1 : needRows (.list ((move fr rs).map rowD)) = some (move fr rs) := (move_canon lp.f0 lp.c1).need rfl
  have p1 : plainRows (.list ((move fr rs).map rowD)) := plain_rows (rs := move fr rs) (by rw [move_len]; have := lp.l1; omega) rfl
  have hf0 := lp.f0
  have hf1 := lp.f1
  refine ⟨_, congrArg some hq, qm, _, 0, _, rfl, rfl, SqL.of hqm, rfl, _, congrArg some htk, _, congrArg some (c.far (by omega)), t, fr, rfl, rfl, rfl, ?_⟩
  refine ⟨x1, .int (t + fr), _, .int (t + fr), rfl, d1, .int _, p1, fun rs' i hrs hi _ H1 S1 => ?_, (fun z => (nnone n1 z).elim), decide_eq_true (by omega)⟩
  obtain rfl := Option.some.inj (hrs.symm.trans n1)
  cases hi
  rw [room_move, room_some]
  refine ⟨_, congrArg some hq, qm, _, 0, _, rfl, rfl, SqL.of (S1 _ _ hqm), rfl, 10, 9, rfl, rfl, ⟨by decide, by decide, by decide⟩, ?_⟩
  have e9 : ((10 : Int) ^ (9 : Int).toNat) = 1000000000 := by decide
  refine ⟨x1, .int ((10 : Int) ^ (9 : Int).toNat), _, .int ((10 : Int) ^ (9 : Int).toNat), rfl, d1.ext (Sub.of S1), .int _, p1, fun rs' i hrs hi _ H2 S2 => ?_, (fun z => (nnone n1 z).elim), rfl⟩
  obtain rfl := Option.some.inj (hrs.symm.trans n1)
  cases hi
  rw [e9, room_some, move_mem, bd_mem (t := 1000000000 - fr) lp.b1 (by omega)]
  refine ⟨(by show 2 ≤ sizeLine; decide), fun M hM => ?_⟩
  have S3 := Same.new (o := .lst [.bl (memR rs t), .bl (memR rs 90)]) hM
  have s1 := Stp.same c.bx c.tb (S1.trans (S2.trans S3))
  exact k { v with told := some (.ref M) } M _ htk rfl upd_same ((c.step s1).free rfl rfl rfl rfl rfl rfl rfl rfl rfl rfl rfl) s1
theorem bools_ok (a b : Bool) : (PyData.list [.bool a, .bool b]).showable = true ∧ (PyData.list [.bool a, .bool b]).hasDict = false ∧ (PyData.list [.bool a, .bool b]).depth ≤ 60 ∧ (PyData.list [.bool a, .bool b]).shown.length ≤ sizeLine := by
  refine ⟨by simp [PyData.showable, PyData.showableAll], by simp [PyData.hasDict, PyData.hasDictAll], by simp [PyData.depth, PyData.depthAll], ?_⟩
  have e : (PyData.list [.bool a, .bool b]).shown = listText [(PyData.bool a).shown, (PyData.bool b).shown] := by simp only [PyData.shown, PyData.shownAll]
  rw [e]
  have hb : ∀ x : Bool, (PyData.bool x).shown.length ≤ 5 := fun x => by cases x <;> simp only [PyData.shown] <;> decide
  have h := listText_le (ts := [(PyData.bool a).shown, (PyData.bool b).shown]) (m := 5) (fun t ht => by
    simp only [List.mem_cons, List.not_mem_nil, or_false] at ht
    rcases ht with rfl | rfl <;> exact hb _)
  simp only [List.length_cons, List.length_nil] at h
  exact Nat.le_trans h (by rw [sizeLine_eq]; omega)
theorem k17 {qs : Addr} {ns : List Int} (hr : Room 12 (xLaw P w K mg base f cdv A outer s H0 E).A) (hg : (xLaw P w K mg base f cdv A outer s H0 E).A.guards = some []) (F : LawFns P w K mg base T C1 C2) : PS (xLaw P w K mg base f cdv A outer s H0 E) (dK 17) (fun D σ H => ∃ (v : LV) (p : Addr) (rs ss : List Row) (fr l t : Int) (q : Addr), σ = v.st ∧ 0 ≤ t ∧ t < 60 ∧ LC K 7 T qs ns p rs ss fr l v H ∧ v.tick = some (.int t) ∧
    v.told = some (.ref q) ∧ H q = some (.lst [.bl (memR rs t), .bl (memR rs 90)]) ∧ ∀ H', LC K 7 T qs ns p rs ss fr l v H' → Stp p T H H' → D.nx v.st H') := by
  have e : dK 17 = (forBody (dLaw 3)).getD 17 (.Pass ⟨0, 0, 0, 0⟩) := rfl
  rw [e]
  refine PS.imp (ps_if (pt_cmpR op_ne (pe_callB (cr_repr hg hr.units) (by rfl) F.B.repr b7_repr (pa_cons (pv 16) pa_nil)) (pe_callB (cr_repr hg hr.units) (by rfl) F.B.repr b7_repr (pa_cons (pe_lst (pa_cons (pe_ix ix_list (pv 9) (pv 8) (fun _ _ => rfl)) (pa_cons (pe_ix ix_list (pv 9) (pv 6) (fun _ _ => rfl)) pa_nil))) pa_nil)) (nomark _)) (pss_one (ps_ret pe_bl)) pss_nil) fun D σ H h => ?_
  obtain ⟨v, p, rs, ss, fr, l, t, q, rfl, h0, h1, c, htk, htl, hql, k⟩ := h
  obtain ⟨qh, hh1, hh2⟩ := c.hasL (by omega)
  obtain ⟨g1, g2, g3, g4⟩ := bools_ok (memR rs t) (memR rs 90)
  have dd : ∀ {G a}, G a = some (.lst [.bl (memR rs t), .bl (memR rs 90)]) → Dv G (.ref a) (.list [.bool (memR rs t), .bool (memR rs 90)]) := fun h => .lst h (.cons (.bl _) (.cons (.bl _) .nil))
  obtain ⟨n, rfl⟩ : ∃ n : Nat, t = (n : Int) := ⟨t.toNat, by omega⟩
  refine ⟨_, congrArg some htl, q, _, rfl, (dd hql).dp, g1, g2, g3, g4, ?_⟩
  refine ⟨_, congrArg some hh1, _, congrArg some htk, qh, _, _, _, rfl, rfl, SqL.of hh2, atI_nat (tr_at rs (show n < 91 by omega)), _, congrArg some hh1, _, congrArg some (c.last (by omega)), qh, _, 90, _, rfl, rfl, SqL.of hh2, atI_nat (j := 90) (tr_at rs (show 90 < 91 by omega)), (by show 2 ≤ sizeLine; decide), fun M hM => ?_⟩
  refine ⟨M, _, rfl, (dd (a := M) upd_same).dp, g1, g2, g3, g4, rfl, _, rfl, ?_⟩
  have ev : (!decide (V.str (PyData.list [.bool (memR rs (n : Int)), .bool (memR rs 90)]).shown = V.str (PyData.list [.bool (memR rs (n : Int)), .bool (memR rs 90)]).shown)) = false := by rw [decide_eq_true rfl]; rfl
  rw [ev]
  have s1 := Stp.same c.bx c.tb (Same.new (o := .lst [.bl (memR rs (n : Int)), .bl (memR rs 90)]) hM)
  exact iteF (k _ (c.step s1) s1)
end
end K7
end

section
set_option Elab.async false
set_option linter.all false
set_option maxRecDepth 100000
set_option maxHeartbeats 4000000
/-! law: drawn ticks, free_but. -/
namespace K7
open PySem L2 LamX LamV
/-- the drawn ticks -/
structure TkS (p : Addr) (ts : List Int) (so : Option Int) (v : LV) (H : Hp) : Prop where
  tk : ∃ q, v.ticks = some (.ref q) ∧ off p H q = some (.lst (ts.map V.int))
  len : ts.length ≤ 8
  rg : ∀ t ∈ ts, 0 ≤ t ∧ t < 30
  si : v.since = some (optV so)
  sr : ∀ e, so = some e → 0 ≤ e ∧ e < 35
theorem TkS.step {T : List (Addr × Str)} {p : Addr} {ts : List Int} {so : Option Int} {v : LV} {H H' : Hp} (t : TkS p ts so v H) (s : Stp p T H H') : TkS p ts so v H' := by
  obtain ⟨q, a, b⟩ := t.tk
  exact ⟨⟨q, a, s.ext _ _ b (fun _ z => by cases z)⟩, t.len, t.rg, t.si, t.sr⟩
theorem lc_byD {J : It} {g : TG} {tt : TT} {te : TE} {vs : List Nat} {σ : L2.St} {H : Hp} {D : Addr} {QD : Hp → Prop} (n : Nat) (Pv : Nat → Hp → Prop) (h0 : Pv 0 (upd H D (.lst []))) (hgo : ∀ i H, i < n → Pv i H → J.go i H) (hstop : ∀ H, Pv n H → J.stop n H)
    (hs : ∀ i H x H', i < n → Pv i H → J.yld i H x H' → g x (wipe σ vs) H' fun σ2 H2 => wipe σ2 vs = wipe σ vs ∧ tt σ2 H2 fun b H3 => if b = true then te σ2 H3 fun y H4 => ∃ acc, H4 D = some (.lst acc) ∧ acc.length < sizeLine ∧ Pv (i + 1) (upd H4 D (.lst (acc ++ [y]))) else Pv (i + 1) H3)
    (hd : ∀ H, Pv n H → QD H) :
    ∃ W : Nat → Nat → Hp → Prop, (∃ m, W 0 m (upd H D (.lst []))) ∧ ∀ i m H, W i m H →
      (J.stop i H ∧ QD H) ∨ (J.go i H ∧ ∃ Nx : Hp → Prop, (∀ H', Nx H' → ∃ m', m' < m ∧ W (i + 1) m' H') ∧ ∀ x H', J.yld i H x H' → g x (wipe σ vs) H' fun σ2 H2 => wipe σ2 vs = wipe σ vs ∧ tt σ2 H2 fun b H3 =>
        if b = true then te σ2 H3 fun y H4 => ∃ acc, H4 D = some (.lst acc) ∧ acc.length < sizeLine ∧ Nx (upd H4 D (.lst (acc ++ [y]))) else Nx H3) := lc_by (Q := fun _ H => QD H) n Pv h0 hgo hstop hs hd
section
variable {P : Program} {w : World} {K : PySem.W.Frag} {mg : Str → Option Value} {base : Heap} {C1 C2 : Addr} {T : List (Addr × Str)} {f : Addr} {cdv : Value} {A : Around} {outer : List Env} {s : Shared} {H0 : Hp} {E : XK}
theorem k18 {qs : Addr} {ns : List Int} (hr : Room 12 (xLaw P w K mg base f cdv A outer s H0 E).A) (F : LawFns P w K mg base T C1 C2) : PS (xLaw P w K mg base f cdv A outer s H0 E) (dK 18) (fun D σ H => ∃ (v : LV) (p : Addr) (rs ss : List Row) (fr l : Int), σ = v.st ∧ LC K 7 T qs ns p rs ss fr l v H ∧
    ∀ (v' : LV) (ts : List Int) q H', v'.ticks = some (.ref q) → off p H' q = some (.lst (ts.map V.int)) → ts.length ≤ 8 → (∀ t ∈ ts, 0 ≤ t ∧ t < 30) → LC K 7 T qs ns p rs ss fr l v' H' → Stp p T H H' → D.nx v'.st H') := by
  have e : dK 18 = (forBody (dLaw 3)).getD 18 (.Pass ⟨0, 0, 0, 0⟩) := rfl
  rw [e]
  refine PS.imp (ps_set (i := 21) ndLaw rfl (Or.inr rfl) (pe_lc (te := tCall spTake [] E0 (tCons (tVar 2) (tCons (tC (.int 30)) tNil))) (own := [("_law_turn", 22)]) (g := gName 22) rfl ndLaw (pi_range1 (by rfl) F.B.range (pa_cons (pe_f F.take hr (by decide) (by rfl) (pa_cons (pv 2) (pa_cons pe_int pa_nil))) pa_nil)) (blkOk_by (own := [("_law_turn", 22)]) (N := nLaw) (sc := defScope sLaw) (by decide +kernel))
      (fun _ _ _ _ _ => pg_name (i := 22) ndLaw rfl (Or.inl rfl)) (fun _ _ _ _ _ => pts_nil) (fun _ _ _ _ _ => pe_f F.take hr (by decide) (by rfl) (pa_cons (pv 2) (pa_cons pe_int pa_nil))))) fun D σ H h => ?_
  obtain ⟨v, p, rs, ss, fr, l, rfl, c, k⟩ := h
  refine ⟨_, congrArg some c.box, p, 9, rfl, c.bx, by decide, by decide, fun n a b c' h0 h1 => ⟨n, rfl, by omega, by omega, fun D0 hD0 => ?_⟩⟩
  have s1 := Stp.box c.bx c.tb a b c'
  have c1 := c.step s1
  have nD : D0 ≠ p := c1.bx.ne hD0
  have grow : ∀ {H' : Hp} {acc : List V} {x : V}, Stp p T (upd H p (.lst [.int a, .int b, .int c'])) H' → H' D0 = some (.lst acc) → Stp p T (upd H p (.lst [.int a, .int b, .int c'])) (upd H' D0 (.lst (acc ++ [x]))) := fun {H' acc x} st hx => by
    obtain ⟨xa, xb, xc, hp⟩ := st.bx
    refine ⟨⟨xa, xb, xc, by rw [upd_ne (Ne.symm nD)]; exact hp⟩, fun y o hy hn => ?_, Tabs.ofOff (p := D0) (by rw [off_upd]; exact Tabs.offL st.tb hx)⟩
    have hyD : y ≠ D0 := fun z => by
      have := off_le _ _ hy
      rw [z, hD0] at this
      cases this
    have hyp : y ≠ p := fun z => by rw [z, off_at] at hy; cases hy
    have := st.ext y o hy hn
    rw [off_ne hyp] at this ⊢
    rw [upd_ne hyD]
    exact this
  refine lc_byD n.toNat (fun i H' => Stp p T (upd H p (.lst [.int a, .int b, .int c'])) H' ∧ ∃ ts : List Int, H' D0 = some (.lst (ts.map V.int)) ∧ ts.length = i ∧ ∀ t ∈ ts, 0 ≤ t ∧ t < 30) ?_ (fun i H' hi _ => hi) (fun H' _ => Nat.le_refl _) (fun i H2 y H3 hi q yl => ?_) (fun H' q => ?_)
  · exact ⟨Stp.same c1.bx c1.tb (Same.new hD0), [], upd_same, rfl, fun t ht => by simp at ht⟩
  · obtain ⟨st, ts, hx, hl, hrg⟩ := q
    obtain ⟨rfl, rfl⟩ := yl
    refine ⟨rfl, ?_⟩
    unfold tYes
    refine iteT ⟨_, congrArg some c.box, p, 30, rfl, st.bx, by decide, by decide, fun d a b c' hd0 hd1 => ?_⟩
    have s2 := st.trans (Stp.box st.bx st.tb a b c')
    have hx2 : (upd H3 p (.lst [.int a, .int b, .int c'])) D0 = some (.lst (ts.map V.int)) := by rw [upd_ne nD]; exact hx
    refine ⟨_, hx2, small1000 (by rw [List.length_map]; omega), grow s2 hx2, ts ++ [d], by rw [List.map_append]; exact upd_same, by rw [List.length_append, hl]; rfl, fun t ht => ?_⟩
    rcases List.mem_append.mp ht with ht | ht
    · exact hrg t ht
    · rw [List.mem_singleton.mp ht]
      exact ⟨hd0, hd1⟩
  · obtain ⟨st, ts, hx, hl, hrg⟩ := q
    have sA := s1.trans st
    exact k { v with ticks := some (.ref D0) } ts D0 H' rfl (by rw [off_ne nD]; exact hx) (by omega) hrg ((c.step sA).free rfl rfl rfl rfl rfl rfl rfl rfl rfl rfl rfl) sA
theorem k19 {qs : Addr} {ns : List Int} (hr : Room 12 (xLaw P w K mg base f cdv A outer s H0 E).A) (F : LawFns P w K mg base T C1 C2) : PS (xLaw P w K mg base f cdv A outer s H0 E) (dK 19) (fun D σ H => ∃ (v : LV) (p : Addr) (rs ss : List Row) (fr l : Int) (ts : List Int) (q : Addr), σ = v.st ∧ LC K 7 T qs ns p rs ss fr l v H ∧ v.ticks = some (.ref q) ∧ off p H q = some (.lst (ts.map V.int)) ∧ ts.length ≤ 8 ∧ (∀ t ∈ ts, 0 ≤ t ∧ t < 30) ∧
    ∀ (v' : LV) so H', TkS p ts so v' H' → LC K 7 T qs ns p rs ss fr l v' H' → Stp p T H H' → D.nx v'.st H') := by
  have e : dK 19 = (forBody (dLaw 3)).getD 19 (.Pass ⟨0, 0, 0, 0⟩) := rfl
  rw [e]
  refine PS.imp (ps_set (i := 23) ndLaw rfl (Or.inr rfl) (pe_f F.pick hr (by decide) (by rfl) (pa_cons (pv 2) (pa_cons (pe_lst (pa_cons pe_non (pa_cons (pe_f F.take hr (by decide) (by rfl) (pa_cons (pv 2) (pa_cons pe_int pa_nil))) pa_nil))) pa_nil)))) fun D σ H h => ?_
  obtain ⟨v, p, rs, ss, fr, l, ts, q, rfl, c, hq, hqx, hl, hrg, k⟩ := h
  refine ⟨_, congrArg some c.box, _, congrArg some c.box, p, 35, rfl, c.bx, by decide, by decide, fun d a b c' h0 h1 => ⟨(by show 2 ≤ sizeLine; decide), fun M hM => ?_⟩⟩
  have s1 := Stp.box c.bx c.tb a b c'
  have c1 := c.step s1
  have s2 := Stp.same c1.bx c1.tb (Same.new (o := .lst [.non, .int d]) hM)
  have c2 := c1.step s2
  refine ⟨p, M, _, rfl, c2.bx, upd_same, c1.bx.ne hM, (by simp), (by simp), fun i x a2 b2 c2' hx => ?_⟩
  have s3 := Stp.box c2.bx c2.tb a2 b2 c2'
  have sA := (s1.trans s2).trans s3
  obtain ⟨so, rfl, hso⟩ : ∃ so, x = optV so ∧ ∀ e, so = some e → 0 ≤ e ∧ e < 35 := by
    match i, hx with
    | 0, h => exact ⟨none, (Option.some.inj h).symm, fun e he => nomatch he⟩
    | 1, h => exact ⟨some d, (Option.some.inj h).symm, fun e he => by cases he; exact ⟨h0, h1⟩⟩
    | i + 2, h => simp at h
  exact k { v with since := some (optV so) } so _ ⟨⟨q, hq, sA.ext _ _ hqx (fun _ z => by cases z)⟩, hl, hrg, rfl, hso⟩ ((c.step sA).free rfl rfl rfl rfl rfl rfl rfl rfl rfl rfl rfl) sA
def TB (ts : List Int) (so : Option Int) : List Bool := (List.range 91).map fun i : Nat => !decide ((i : Int) ∈ ts) && below so (i : Int)
theorem TB_len (ts : List Int) (so : Option Int) : (TB ts so).length = 91 := by unfold TB; simp
theorem TB_get (ts : List Int) (so : Option Int) {i : Nat} (h : i ≤ 90) : (TB ts so).getD i false = (!decide ((i : Int) ∈ ts) && below so (i : Int)) := by
  unfold TB
  rw [List.getD_eq_getElem?_getD, List.getElem?_map, List.getElem?_range (by omega)]
  rfl
theorem inV_ints (i : Int) : ∀ ts : List Int, inV (.int i) (ts.map V.int) = decide (i ∈ ts) ∧ (ts.map V.int).all flatV = true
  | [] => ⟨by simp [inV], rfl⟩
  | t :: ts => by
    obtain ⟨h1, h2⟩ := inV_ints i ts
    refine ⟨?_, by rw [List.map_cons, List.all_cons, h2]; rfl⟩
    have : inV (.int i) (V.int t :: ts.map V.int) = (eqV (.int t) (.int i) || inV (.int i) (ts.map V.int)) := rfl
    rw [List.map_cons, this, h1]
    have e : eqV (.int t) (.int i) = decide (i = t) := by
      show (t == i) = _
      rw [Bool.eq_iff_iff, beq_iff_eq, decide_eq_true_iff]
      exact eq_comm
    rw [e, Bool.eq_iff_iff]
    simp
/-- tick not in ticks and (since is None or tick < since) -/
def tBut (ts : List Int) (so : Option Int) : TE := fun σ H Q => ∃ q, ∃ i : Nat, i < 91 ∧ σ[8]? = some (some (.int (i : Int))) ∧ σ[21]? = some (some (.ref q)) ∧ σ[23]? = some (some (optV so)) ∧ H q = some (.lst (ts.map V.int)) ∧ Q (.bl ((TB ts so).getD i false)) H
def tButE : TE := fun σ H Q => ∃ ts so, tBut ts so σ H Q
theorem tButE_to {K : PySem.W.Frag} {σ : L2.St} {H : Hp} {Q : VK} (h : tButE σ H Q) :
    tAndV (tOp (rIn K true) (tVar 8) (tVar 21)) (tOrV (tOp (fun x y H Q => y = .non ∧ Q (.bl (decide (x = .non))) H) (tVar 23) (tC .non)) (tOp (rI0 fun i j => .bl (decide (i < j))) (tVar 8) (tVar 23))) σ H Q := by
  obtain ⟨ts, so, q, i, hi, h1, h2, h3, h4, k⟩ := h
  rw [TB_get ts so (by omega)] at k
  obtain ⟨e1, e2⟩ := inV_ints (i : Int) ts
  refine ⟨_, h1, _, h2, q, ts.map V.int, rfl, .inl (SqL.of h4), rfl, e2, ?_⟩
  show ∃ c, V.bl (!inV (.int (i : Int)) (ts.map V.int)) = .bl c ∧ _
  rw [e1]
  refine ⟨_, rfl, ?_⟩
  cases hd : (!decide ((i : Int) ∈ ts)) with
  | false => rw [hd] at k; exact iteF k
  | true =>
    rw [hd, Bool.true_and] at k
    refine iteT ⟨_, h3, rfl, _, rfl, ?_⟩
    cases so with
    | none => exact iteT k
    | some x => exact iteF ⟨_, h1, _, h3, i, x, rfl, rfl, k⟩
theorem k20 {qs : Addr} {ns : List Int} (F : LawFns P w K mg base T C1 C2) : PS (xLaw P w K mg base f cdv A outer s H0 E) (dK 20) (fun D σ H => ∃ (v : LV) (p : Addr) (rs ss : List Row) (fr l : Int) (ts : List Int) (so : Option Int), σ = v.st ∧ LC K 7 T qs ns p rs ss fr l v H ∧ TkS p ts so v H ∧
    ∀ (v' : LV) q H', TkS p ts so v' H' → LC K 7 T qs ns p rs ss fr l v' H' → Stp p T H H' → v'.truths = some (.ref q) → Dv H' (.ref q) (.list ((TB ts so).map PyData.bool)) → D.nx v'.st H') := by
  have e : dK 20 = (forBody (dLaw 3)).getD 20 (.Pass ⟨0, 0, 0, 0⟩) := rfl
  rw [e]
  refine PS.imp (ps_setLc (i := 17) (te := tButE) (own := [("_law_tick", 8)]) (g := gName 8) rfl ndLaw rfl rfl (sw_true rfl rfl rfl (by decide +kernel)) (pi_range1 (by rfl) F.B.range (pa_cons (pe_op op_add (pv 6) pe_int) pa_nil)) (blkOk_by (own := [("_law_tick", 8)]) (N := nLaw) (sc := defScope sLaw) (by decide +kernel))
      (fun _ _ _ _ _ => pg_name (i := 8) ndLaw rfl (Or.inl rfl)) (fun _ _ _ _ _ => pts_nil)
      (fun _ _ _ _ _ => PE.imp (pe_and (pe_cmpR op_notIn_seq (pv 8) (pv 21) (by rfl)) (pe_one (pe_or (pe_cmpR op_isN (pv 23) pe_non (nomark _)) (pe_one (pe_cmpR op_lt (pv 8) (pv 23) (nomark _)))))) fun σ H Q h => tButE_to h)) fun D σ H h => ?_
  obtain ⟨v, p, rs, ss, fr, l, ts, so, rfl, c, tk, k⟩ := h
  obtain ⟨q, hq, hqx⟩ := tk.tk
  refine ⟨_, congrArg some (c.last (by omega)), 90, 1, rfl, rfl, 91, rfl, by decide, by decide, fun D0 hD0 => ?_⟩
  refine lc_truths (TB ts so) (TB_len ts so) hD0 (fun i H1 acc N hi S ha hN => ?_) (fun H1 S hdT => ?_)
  · refine ⟨rfl, ?_⟩
    unfold tYes
    exact iteT ⟨ts, so, q, i, hi, by rw [Int.zero_add]; rfl, congrArg some hq, congrArg some tk.si, S _ _ (off_le _ _ hqx), hN H1 _ (Same.refl _) rfl⟩
  · have s1 := Stp.same c.bx c.tb S
    have t1 := tk.step s1
    exact k { v with truths := some (.ref D0) } D0 H1 ⟨t1.tk, t1.len, t1.rg, t1.si, t1.sr⟩ ((c.step s1).free rfl rfl rfl rfl rfl rfl rfl rfl rfl rfl rfl) s1 rfl hdT
end
end K7
end

section
set_option Elab.async false
set_option linter.all false
set_option maxRecDepth 100000
set_option maxHeartbeats 4000000
/-! law: free_but, the refusals, the rounds. -/
namespace K7
open PySem L2 LamX LamV
theorem ticks_ok {ts : List Int} (h : ∀ t ∈ ts, 0 ≤ t ∧ t < 30) {d : PyData} (hd : itemsD d = some (ts.map PyData.int)) : ticksOf d = some ts := by
  unfold ticksOf
  rw [hd]
  have : (ts.map PyData.int).all isNumD = true := by
    rw [List.all_map, List.all_eq_true]
    intro t ht
    exact decide_eq_true (h t ht).1
  simp only [this, if_true]
  congr 1
  rw [List.map_map]
  have : (intD ∘ PyData.int) = id := rfl
  rw [this, List.map_id]
section
variable {P : Program} {w : World} {K : PySem.W.Frag} {mg : Str → Option Value} {base : Heap} {C1 C2 : Addr} {T : List (Addr × Str)} {f : Addr} {cdv : Value} {A : Around} {outer : List Env} {s : Shared} {H0 : Hp} {E : XK}
theorem k21 {qs : Addr} {ns : List Int} (hr : Room 12 (xLaw P w K mg base f cdv A outer s H0 E).A) (F : LawFns P w K mg base T C1 C2) : PS (xLaw P w K mg base f cdv A outer s H0 E) (dK 21) (fun D σ H => ∃ (v : LV) (p : Addr) (rs ss : List Row) (fr l : Int) (ts : List Int) (so : Option Int) (q : Addr), σ = v.st ∧ LC K 7 T qs ns p rs ss fr l v H ∧ TkS p ts so v H ∧ v.truths = some (.ref q) ∧ Dv H (.ref q) (.list ((TB ts so).map PyData.bool)) ∧
    ∀ H', TkS p ts so v H' → LC K 7 T qs ns p rs ss fr l v H' → Stp p T H H' → D.nx v.st H') := by
  have e : dK 21 = (forBody (dLaw 3)).getD 21 (.Pass ⟨0, 0, 0, 0⟩) := rfl
  rw [e]
  refine PS.imp (ps_if (pw_or (pt_cmpR (op_neD hr.units) (pe_fk F.butK hr (by decide) (by rfl) passN (pk_cons (pv 21) (pk_cons (pv 23) pk_nil))) (pe_f F.rowOf hr (by decide) (by rfl) (pa_cons (pv 17) (pa_cons (pv 6) pa_nil))) (nomark _))
      (pw_or1 (pt_cmpR (op_neD hr.units) (pe_fx F.but1 hr (by decide) (by rfl) L2.takes0 (fun _ _ _ _ h => h) (pa_cons (pe_callTy cr_tupL (by rfl) F.B.tuple boot_tuple (pa_cons (pv 21) pa_nil)) pa_nil))
        (pe_fx F.but1 hr (by decide) (by rfl) L2.takes0 (fun _ _ _ _ h => h) (pa_cons (pe_callB cr_sorted (by rfl) F.B.sorted b7_sorted (pa_cons (pv 21) pa_nil)) pa_nil)) (nomark _)))).pt (pss_one (ps_ret pe_bl)) pss_nil) fun D σ H h => ?_
  obtain ⟨v, p, rs, ss, fr, l, ts, so, q, rfl, c, tk, htr, hdT, k⟩ := h
  obtain ⟨qt, hqt, hqx⟩ := tk.tk
  have hqx' := off_le _ _ hqx
  have d0 : Dv H (.ref qt) (.list (ts.map PyData.int)) := .lst hqx' (DvAll.ints ts)
  have htl := tk.len
  have lenD : ∀ {ns : List Int} {d : PyData}, ns.length ≤ 8 → itemsD d = some (ns.map PyData.int) → ∀ ds, itemsD d = some ds → ds.length ≤ 60 := fun {ns d} hn h ds hd => by
    rw [h] at hd
    cases hd
    rw [List.length_map]
    omega
  have ok0 : ticksOf (.list (ts.map PyData.int)) = some ts := ticks_ok tk.rg rfl
  refine ⟨_, congrArg some hqt, _, congrArg some tk.si, rfl, ?_⟩
  refine ⟨.ref qt, _, so, rfl, d0, lenD htl rfl, fun ns' hns _ ms m1 m2 t1 H1 S1 hd1 => ?_, (fun z => (nnone ok0 z).elim), (fun i hi hlt => by have := tk.sr i hi; omega)⟩
  obtain rfl := Option.some.inj (hns.symm.trans ok0)
  have e1 : butRows ms so = rowsOf (TB ns' so) := but_due m1 m2 (fun t ht => by have := tk.rg t ht; omega) (fun e he => by have := tk.sr e he; omega) (TB_len ns' so) fun i hi => TB_get ns' so hi
  rw [e1] at hd1
  refine ⟨_, congrArg some htr, _, congrArg some (c.last (by omega)), .ref q, TB ns' so, 90, rfl, hdT.ext (Sub.of S1), TB_len ns' so, by decide, fun t2 H2 S2 _ hd2 => ?_⟩
  refine ne_rows (us := rowsOf (TB ns' so)) (hd1.ext (Sub.of S2)) hd2 ⟨_, rfl, iteF ?_⟩
  -- the same of a tuple and of a sorted list
  have S12 := S1.trans S2
  have hq2 := S12 _ _ hqx'
  refine ⟨_, congrArg some hqt, qt, _, rfl, .inl ⟨SqL.of hq2, fun u hu => ?_⟩⟩
  have S3 := Same.new (o := .tup (ns'.map V.int)) hu
  have du : Dv (upd H2 u (.tup (ns'.map V.int))) (.ref u) (.tuple (ns'.map PyData.int)) := .tup upd_same (DvAll.ints ns')
  have ok1 : ticksOf (.tuple (ns'.map PyData.int)) = some ns' := ticks_ok tk.rg rfl
  refine ⟨.ref u, _, none, rfl, du, lenD htl rfl, fun na hna _ ma a1 a2 t3 H3 S4 hd3 => ?_, (fun z => (nnone ok1 z).elim), (fun i hi _ => nomatch hi)⟩
  obtain rfl := Option.some.inj (hna.symm.trans ok1)
  have S34 := S12.trans (S3.trans S4)
  refine ⟨_, congrArg some hqt, qt, na, rfl, SqL.of (S34 _ _ hqx'), by omega, fun nb w1 hpm _ hw1 => ?_⟩
  have S5 := Same.new (o := .lst (nb.map V.int)) hw1
  have hnb : ∀ t ∈ nb, 0 ≤ t ∧ t < 30 := fun t ht => tk.rg t (hpm.mem_iff.mp ht)
  have ok2 : ticksOf (.list (nb.map PyData.int)) = some nb := ticks_ok hnb rfl
  refine ⟨.ref w1, .list (nb.map PyData.int), none, rfl, .lst upd_same (DvAll.ints nb), lenD (by rw [hpm.length_eq]; exact htl) rfl, fun nc hnc _ mb b1 b2 t4 H4 S6 hd4 => ?_, (fun z => (nnone ok2 z).elim), (fun i hi _ => nomatch hi)⟩
  obtain rfl := Option.some.inj (hnc.symm.trans ok2)
  have e2 : butRows mb none = butRows ma none := but_same b1 a1 (fun k => (b2 k).trans (hpm.mem_iff.trans (a2 k).symm)) (fun t ht => (hnb t ((b2 t).mp ht)).1)
  rw [e2] at hd4
  refine ne_rows (us := butRows ma none) (hd3.ext (Sub.of (S5.trans S6))) hd4 ⟨_, rfl, iteF ?_⟩
  have sA := Stp.same c.bx c.tb (S34.trans (S5.trans S6))
  exact k H4 (tk.step sA) (c.step sA) sA
theorem k22 {qs : Addr} {ns : List Int} (hr : Room 12 (xLaw P w K mg base f cdv A outer s H0 E).A) (F : LawFns P w K mg base T C1 C2) : PS (xLaw P w K mg base f cdv A outer s H0 E) (dK 22) (fun D σ H => ∃ (v : LV) (p : Addr) (rs ss : List Row) (fr l : Int) (ts : List Int) (so : Option Int), σ = v.st ∧ LP rs ss fr l ∧ LC K 7 T qs ns p rs ss fr l v H ∧ TkS p ts so v H ∧
    ∀ H', LC K 7 T qs ns p rs ss fr l v H' → Stp p T H H' → D.nx v.st H') := by
  have e : dK 22 = (forBody (dLaw 3)).getD 22 (.Pass ⟨0, 0, 0, 0⟩) := rfl
  rw [e]
  refine PS.imp (ps_if (pt_not (pt_val (pe_f F.ref hr (by decide) (by rfl) (pa_cons (pv 2) (pa_cons (pv 3) (pa_cons (pv 4) (pa_cons (pv 21) pa_nil))))))) (pss_one (ps_ret pe_bl)) pss_nil) fun D σ H h => ?_
  obtain ⟨v, p, rs, ss, fr, l, ts, so, rfl, lp, c, tk, k⟩ := h
  obtain ⟨q1, hq1, hd1⟩ := c.one (by omega)
  obtain ⟨q2, hq2, hd2⟩ := c.other (by omega)
  obtain ⟨q3, hq3, hd3⟩ := tk.tk
  have htl := tk.len
  refine ⟨_, congrArg some c.box, _, congrArg some hq1, _, congrArg some hq2, _, congrArg some hq3, p, q1, q2, q3, rs, ss, ts, rfl, c.bx, c.tb, hd1, hd2, hd3, lp.c1, lp.c2, lp.l1, lp.l2, by omega, fun H' bx' ex tb' => ⟨_, rfl, ?_⟩⟩
  have s1 : Stp p T H H' := ⟨bx', ex, tb'⟩
  exact iteF (k H' (c.step s1) s1)
end
end K7
end

section
set_option Elab.async false
set_option linter.all false
set_option maxRecDepth 100000
set_option maxHeartbeats 4000000
/-! law: the whole body. -/
namespace K7
open PySem L2 LamX LamV
section
variable {P : Program} {w : World} {K : PySem.W.Frag} {mg : Str → Option Value} {base : Heap} {C1 C2 : Addr} {T : List (Addr × Str)} {f : Addr} {cdv : Value} {A : Around} {outer : List Env} {s : Shared} {H0 : Hp} {E : XK}
def LIn (K : PySem.W.Frag) (T : List (Addr × Str)) (qs : Addr) (ns : List Int) (σ : L2.St) (H : Hp) : Prop := ∃ v : LV, σ = v.st ∧ v.script = some (.ref qs) ∧ SqL K H qs (ns.map V.int) ∧ Tabs T H
def tRound (K : PySem.W.Frag) (T : List (Addr × Str)) (qs : Addr) (ns : List Int) : TS := fun D σ H => ∃ (v : LV) (k : Nat), σ = v.st ∧ v.script = some (.ref qs) ∧ v.k = some (.int (k : Int)) ∧ k < 4 ∧ SqL K H qs (ns.map V.int) ∧ ns.length ≤ 63 ∧ Tabs T H ∧ ∀ σ' H', LIn K T qs ns σ' H' → D.nx σ' H'
theorem law_round {qs : Addr} {ns : List Int} (hr : Room 12 (xLaw P w K mg base f cdv A outer s H0 E).A) (hg : (xLaw P w K mg base f cdv A outer s H0 E).A.guards = some []) (F : LawFns P w K mg base T C1 C2) : PSs (xLaw P w K mg base f cdv A outer s H0 E) (forBody (dLaw 3)) (tRound K T qs ns) := by
  rw [dK_all]
  refine PSs.imp (pss_cons (k0 (qs := qs) (ns := ns) hr F) (pss_cons (k1 (qs := qs) (ns := ns) hr F) (pss_cons (k2 (qs := qs) (ns := ns) hr F) (pss_cons (k3 (qs := qs) (ns := ns) hr F) (pss_cons (k4 (qs := qs) (ns := ns) hr F) (pss_cons (k5 (qs := qs) (ns := ns) hr F) (pss_cons (k6 (qs := qs) (ns := ns) hr F) (pss_cons (k7 (qs := qs) (ns := ns) hr hg F)
    (pss_cons (k8 (qs := qs) (ns := ns) hr F) (pss_cons (k9 (qs := qs) (ns := ns) F) (pss_cons (k10 (qs := qs) (ns := ns) F) (pss_cons (k11 (qs := qs) (ns := ns) hr F) (pss_cons (k12 (qs := qs) (ns := ns) hr hg F) (pss_cons (k13 (qs := qs) (ns := ns) hr F) (pss_cons (k14 (qs := qs) (ns := ns) hr F) (pss_cons (k15 (qs := qs) (ns := ns) hr F)
    (pss_cons (k16 (qs := qs) (ns := ns) hr F) (pss_cons (k17 (qs := qs) (ns := ns) hr hg F) (pss_cons (k18 (qs := qs) (ns := ns) hr F) (pss_cons (k19 (qs := qs) (ns := ns) hr F) (pss_cons (k20 (qs := qs) (ns := ns) F) (pss_cons (k21 (qs := qs) (ns := ns) hr F) (pss_one (k22 (qs := qs) (ns := ns) hr F)))))))))))))))))))))))) fun D σ H h => ?_
  obtain ⟨v, i, rfl, hs, hk, hi, hq, hl, hT, k⟩ := h
  refine ⟨v, i, rfl, hs, hk, hi, hq, hl, hT, fun v p H lc e0 => ?_⟩
  refine ⟨v, p, rfl, lc, fun v rs ss H c1 c2 b1 b2 l1 l2 lc e1 => ?_⟩
  refine ⟨v, p, rs, ss, rfl, lc, fun v fr H f0 f1 lc e2 => ?_⟩
  refine ⟨v, p, rs, ss, fr, rfl, lc, fun v l H d0 d1 lc e3 => ?_⟩
  have lp : LP rs ss fr l := ⟨c1, c2, b1, b2, l1, l2, f0, f1, d0, d1⟩
  refine ⟨v, p, rs, ss, fr, l, rfl, lp, lc, fun v H lc e4 => ?_⟩
  refine ⟨v, p, rs, ss, fr, l, rfl, lp, lc, fun v H lc e5 => ?_⟩
  refine ⟨v, p, rs, ss, fr, l, rfl, lp, lc, fun v H lc e6 => ?_⟩
  refine ⟨v, p, rs, ss, fr, l, rfl, lp, lc, fun v lc => ?_⟩
  refine ⟨v, p, rs, ss, fr, l, rfl, lp, lc, fun v H lc _ => ?_⟩
  refine ⟨v, p, rs, ss, fr, l, rfl, lp, lc, fun v D0 H9 t => ?_⟩
  refine ⟨v, p, rs, ss, fr, l, H, D0, rfl, lp, t, fun v Ti H10 t hTi => ?_⟩
  refine ⟨v, p, rs, ss, fr, l, H, D0, Ti, rfl, t, fun v q H lc _ hdue hdv => ?_⟩
  refine ⟨v, p, rs, ss, fr, l, q, Ti, rfl, lp, lc, hdue, hdv, t.len, hTi, fun H lc _ => ?_⟩
  refine ⟨v, p, rs, ss, fr, l, rfl, lc, fun v tk H t0 t1 htk lc _ => ?_⟩
  refine ⟨v, p, rs, ss, fr, l, tk, rfl, lp.l1, lc, htk, fun v q H htk hn hqn lc _ => ?_⟩
  refine ⟨v, p, rs, ss, fr, l, tk, q, rfl, lp, t0, lc, htk, hn, hqn, fun H lc _ => ?_⟩
  refine ⟨v, p, rs, ss, fr, l, tk, rfl, lp, t0, lc, htk, fun v q H htk htl hql lc _ => ?_⟩
  refine ⟨v, p, rs, ss, fr, l, tk, q, rfl, t0, t1, lc, htk, htl, hql, fun H lc _ => ?_⟩
  refine ⟨v, p, rs, ss, fr, l, rfl, lc, fun v ts q H hq hqx hl hrg lc _ => ?_⟩
  refine ⟨v, p, rs, ss, fr, l, ts, q, rfl, lc, hq, hqx, hl, hrg, fun v so H tks lc _ => ?_⟩
  refine ⟨v, p, rs, ss, fr, l, ts, so, rfl, lc, tks, fun v q H tks lc _ htr hdT => ?_⟩
  refine ⟨v, p, rs, ss, fr, l, ts, so, q, rfl, lc, tks, htr, hdT, fun H tks lc _ => ?_⟩
  refine ⟨v, p, rs, ss, fr, l, ts, so, rfl, lp, lc, tks, fun H lc _ => ?_⟩
  exact k _ H ⟨v, rfl, lc.scr.1, lc.scr.2.extN (ExtN.of off_le), lc.tb⟩
theorem law3 {qs : Addr} {ns : List Int} (hr : Room 12 (xLaw P w K mg base f cdv A outer s H0 E).A) (hg : (xLaw P w K mg base f cdv A outer s H0 E).A.guards = some []) (F : LawFns P w K mg base T C1 C2) : PS (xLaw P w K mg base f cdv A outer s H0 E) (dLaw 3) (fun D σ H => LIn K T qs ns σ H ∧ ns.length ≤ 63 ∧ ∀ σ' H', LIn K T qs ns σ' H' → D.nx σ' H') := by
  have hb := law_round (f := f) (cdv := cdv) (A := A) (outer := outer) (s := s) (H0 := H0) (E := E) (qs := qs) (ns := ns) hr hg F
  have e : dLaw 3 = (defBody sLaw).getD 3 (.Pass ⟨0, 0, 0, 0⟩) := rfl
  rw [e] at hb ⊢
  refine PS.imp (ps_for (passes_of rfl) rfl (pi_range1 (by rfl) F.B.range (pa_cons pe_int pa_nil)) (pg_name (i := 1) ndLaw rfl (Or.inl rfl)) hb) fun D σ H h => ?_
  obtain ⟨⟨v, rfl, hs, hq, hT⟩, hl, k⟩ := h
  refine ⟨4, rfl, by decide, by decide, ?_⟩
  refine for_by 4 (fun i σ H' => LIn K T qs ns σ H') ⟨v, rfl, hs, hq, hT⟩ (fun i σ H' hi _ => hi) (fun σ H' _ => Nat.le_refl _) (fun i σ H' y H'' hi q yl => ?_) (fun σ H' q => k σ H' q)
  obtain ⟨v', rfl, hs', hq', hT'⟩ := q
  obtain ⟨rfl, rfl⟩ := yl
  exact ⟨{ v' with k := some (.int (0 + (i : Int))) }, i, rfl, hs', by rw [Int.zero_add], hi, hq', hl, hT', fun σ' H' q => q⟩
theorem law4 : PS (xLaw P w K mg base f cdv A outer s H0 E) (dLaw 4) (tRet (tC (.bl true))) := by
  have e : dLaw 4 = (defBody sLaw).getD 4 (.Pass ⟨0, 0, 0, 0⟩) := rfl
  rw [e]
  exact ps_ret pe_bl
/-- law answers True -/
theorem law_body {qs : Addr} {ns : List Int} (hr : Room 12 (xLaw P w K mg base f cdv A outer s H0 E).A) (hg : (xLaw P w K mg base f cdv A outer s H0 E).A.guards = some []) (F : LawFns P w K mg base T C1 C2) : PSs (xLaw P w K mg base f cdv A outer s H0 E) (defBody sLaw) (fun D σ H => LIn K T qs ns σ H ∧ ns.length ≤ 63 ∧ ∀ H', D.rt (.bl true) H') := by
  rw [dLaw_all]
  refine PSs.imp (pss_cons (law0 hr F) (pss_cons (law1 hr F) (pss_cons (law2 hr F) (pss_cons (law3 (qs := qs) (ns := ns) hr hg F) (pss_one law4))))) fun D σ H h => ?_
  obtain ⟨⟨v, rfl, hs, hq, hT⟩, hl, k⟩ := h
  refine fun H1 S1 => ⟨Tabs.ext hT S1, fun H2 E2 T2 H3 S3 => ⟨⟨v, rfl, hs, ((hq.extN (ExtN.of S1)).extN E2).extN (ExtN.of S3), Tabs.ext T2 S3⟩, hl, fun σ' H' _ => k H'⟩⟩
end
end K7
end

section
set_option Elab.async false
set_option linter.all false
set_option maxRecDepth 100000
set_option maxHeartbeats 4000000
/-! The head's facts, by an own Hook. -/
namespace K7
open PySem PySem.Spec PyProof.Rows L2 LamX
/-! ### a part of the heap without tables -/
def notTab (o : Obj) : Bool := match o.cls, o.data with
  | .none, .fields _ => false
  | _, _ => true
def frT (g : Addr → Option Obj) (as : List Addr) : PySem.W.Frag := (He.frG g as).filter fun p => notTab p.2
theorem lookup_mem : ∀ {l : PySem.W.Frag} {a : Addr} {o : Obj}, l.lookup a = some o → (a, o) ∈ l
  | [], a, o, h => by cases h
  | (b, u) :: r, a, o, h => by
    have h2 : (match a == b with | true => some u | false => List.lookup a r) = some o := h
    cases q : (a == b) with
    | true =>
      rw [q] at h2
      cases h2
      rw [beq_iff_eq.mp q]
      exact List.mem_cons_self
    | false =>
      rw [q] at h2
      exact List.mem_cons_of_mem _ (lookup_mem h2)
theorem frT_in {as : List Addr} {h : Heap} : (frT h.get? as).In h := fun a o e => by
  have m := (List.mem_filter.mp (lookup_mem e)).1
  unfold He.frG at m
  obtain ⟨b, _, hb⟩ := List.mem_filterMap.mp m
  cases q : h.get? b with
  | none =>
    rw [q] at hb
    cases hb
  | some u =>
    rw [q] at hb
    cases hb
    exact q
/-! ### the facts of an own error -/
def isB (v : Option (Option Value)) (n : String) : Bool := He.eqO v (some (some (.builtin n)))
def ownB (file : Str) (K : PySem.W.Frag) (x fn : Str) (dvs : List V) : Bool :=
  let C := He.ga K x
  let fI := He.ma K C "__init__"
  He.eqO (PySem.W.nsIn K mainGlobals x) (some (some (.ref C))) && (PySem.W.keepIn K (.ref C) && (PySem.W.excInitIn K C PySem.ErrX.exMro "Exception.__new__" && (PySem.W.excOver K C PySem.ErrX.exMro &&
  (isB (PySem.W.findIn K (.ref C) "__setattr__") "object.__setattr__" && (isB (PySem.W.findIn K (.ref C) "__getattribute__") "BaseException.__getattribute__" && (He.eqO (PySem.W.findIn K (.ref C) "__getattr__") (some none) &&
  (He.eqO (PySem.W.findIn K (.ref C) fn) (some none) && (He.eqO (PySem.W.findIn K (.ref C) "__init__") (some (some (.ref fI))) && (decide (PySem.W.typeIn K (.ref fI) = some (.type "function")) && (decide (PySem.W.subIn K (.ref C) (.type "BaseException") = some true) &&
  (decide (PySem.W.subIn K (.ref C) (.type "Exception") = some true) && (decide (PySem.W.typeIn K (.ref C) = some (.type "type")) && (PySem.W.hasDictIn K C && (decide (PySem.W.mroIn K C (.ref C) = some true) && (decide (PySem.W.takerIn K C fn = some none) &&
  (isB (PySem.W.ks_superIn K C C "__init__") "Exception.__init__" && (He.eqO (PySem.W.nsIn K cStatics "thirdparty.any") (some none) &&
  (match K.lookup fI with
  | some ⟨_, _, .func fd, _⟩ => (match fd.closure, fd.code with
    | [(n, cc)], .ref cda => decide (n = "__class__") && (PySem.W.codeIn K (.ref cda) fd.qualname && (He.dflB K fd.defaults dvs &&
      ((match K.lookup cc with
      | some ⟨_, _, .cell (some (.ref C')), _⟩ => decide (C' = C)
      | _ => false) &&
      (match K.lookup cda with
      | some ⟨_, _, .fields vs, _⟩ => (match (vs[2]? : Option Value) with
        | some (.str f _) => f == file
        | _ => false)
      | _ => false))))
    | _, _ => false)
  | _ => false))))))))))))))))))
abbrev FnI : Type := Option (Str × Arguments × FuncBody × Scope × Addr × Addr)
def fnI (K : PySem.W.Frag) (x : Str) : FnI := match K.lookup (He.ma K (He.ga K x) "__init__") with
  | some ⟨_, _, .func fd, _⟩ => some (fd.name, fd.params, fd.body, fd.scope, fd.globals, fd.builtins)
  | _ => none
def fnIv (st : Stmt) : FnI := some ("__init__", defArgs st, .stmts (defBody st), defScope st, mainGlobals, builtinsNs)
/-- a def's table is not in the part -/
def tabB (K : PySem.W.Frag) (x : Str) : Bool := match PySem.W.tabIn K x with
  | some (_, P) => (K.lookup P).isNone
  | none => false
def tabNe (K : PySem.W.Frag) (x y : Str) : Bool := match PySem.W.tabIn K x, PySem.W.tabIn K y with
  | some (_, P), some (_, P') => !decide (P = P')
  | _, _ => false
/-! ### the Hook -/
def dOf (x : Str) (st : Stmt) (dfl : List He.Dv) : He.DefD := ⟨(x, none), x, x, defArgs st, defBody st, defScope st, dfl, []⟩
def fns : List He.DefD := [dOf "is_integer" sIsInt [], dOf "is_number" sIsNum [], dOf "is_sequence" sIsSeq [], dOf "need_many" sMany [.int 0], dOf "is_stretch" sIsStr [], dOf "need_stretches" sNeed [.int (-1)], dOf "need_tick" sTick [], dOf "room_at" sRoom [], dOf "is_free_at" sFree [], dOf "need_ticks" sTicks [],
  dOf "free_but" sBut [.non], dOf "lesser_end" sLess [], dOf "both_free" sBoth [], dOf "either_free" sEith [], dOf "shorten_ends" sShort [], dOf "_law_box" sBox [], dOf "_law_take" sTake [], dOf "_law_pick" sPick [], dOf "_law_stretches" sStr [], dOf "_law_has" sHas [], dOf "_law_row_of" sRow [], dOf "_law_told" sTold [],
  dOf "_law_wrong" sWrong [], dOf "_law_refusals" sRef [], dOf "law" sLaw []]
def fas : List He.Fa := [.glo "is_integer", .glo "is_number", .glo "is_sequence", .glo "need_many", .glo "is_stretch", .glo "need_stretches", .glo "need_tick", .glo "room_at", .glo "is_free_at", .glo "need_ticks", .glo "free_but", .glo "lesser_end", .glo "both_free", .glo "either_free", .glo "shorten_ends",
  .glo "_law_box", .glo "_law_take", .glo "_law_pick", .glo "_law_stretches", .glo "_law_has", .glo "_law_row_of", .glo "_law_told", .glo "_law_wrong", .glo "_law_refusals", .glo "law",
  .free "isinstance", .free "int", .free "bool", .free "list", .free "tuple", .free "len", .free "enumerate", .free "sorted", .free "set", .free "all", .free "min", .free "max", .free "range", .free "abs", .free "repr", .free "super",
  .exm "InvalidStretches" "InvalidStretches" true, .exm "InvalidSize" "InvalidStretches" false, .exm "InvalidSize" "InvalidSize" true]
abbrev P0 : Program := PySem.Challenge.pw_nobodymeets_k07_whole_stretches_of_free
def obM (K : PySem.W.Frag) : He.AlD × Bool × FnI × FnI := (He.obsD fas fns K, ownB P0.main.file K "InvalidStretches" "at" [.int (-1)] && (ownB P0.main.file K "InvalidSize" "word" [] && (tabB K "either_free" && (tabB K "_law_refusals" && tabNe K "either_free" "_law_refusals"))), fnI K "InvalidStretches", fnI K "InvalidSize")
def vaM : He.AlD × Bool × FnI × FnI := (He.valD fns, true, fnIv sE1, fnIv sE2)
def SaysM (K : PySem.W.Frag) : Prop := obM K = vaM
def obG (g : Addr → Option Obj) : He.AlD × Bool × FnI × FnI := obM (frT g (cStatics :: He.asD g 5))
def hkM : PySem.W.Hook where
  α := He.AlD × Bool × FnI × FnI
  obs := fun s => obG s.heap.get?
  val := fun _ => vaM
  says := fun _ h => ∃ K : PySem.W.Frag, K.In h ∧ SaysM K
  of := fun _ _ e => ⟨_, frT_in, e⟩
  keeps := fun _ _ _ ⟨K, hK, c⟩ k => ⟨K, PySem.W.Frag.In.keeps hK k, c⟩
def obS (s : PySem.W.SharedT) : He.AlD × Bool × FnI × FnI := obG (HandSHeadRun.getT s)
theorem obS_eq (s : PySem.W.SharedT) : obS s = hkM.obs s.abs := by
  have e : HandSHeadRun.getT s = s.abs.heap.get? := funext fun a => HandSHeadRun.getT_eq s a
  unfold obS
  rw [e] <;> rfl
end K7
end

section
set_option Elab.async false
set_option linter.all false
set_option maxRecDepth 100000
set_option maxHeartbeats 0
/-! The head's run. -/
namespace K7
open PySem PySem.Spec PyProof.Rows L2 LamX
abbrev R0 : PySem.W.OpenRow := PySem.W.OpenLaw.row PySem.Challenge.rw_nobodymeets_k07_whole_stretches_of_free
abbrev qv : Program := PySem.W.view R0.prog [20, 31, 32]
def loose : List PySem.Str := ["HallError", "InvalidStretches", "InvalidSize", "is_integer", "is_number", "is_sequence", "need_many", "is_stretch", "need_stretches", "need_tick", "room_at", "is_free_at", "need_ticks", "free_but", "lesser_end", "both_free", "shorten_ends", "_law_box", "_law_take", "_law_pick", "_law_stretches", "_law_has", "_law_row_of", "_law_told", "_law_wrong"]
theorem run (w : World) : HandSHeadRun.RunEq R0 qv hkM obS 3000 loose w := by
  intro os
  kernel_rfl
end K7
end

section
set_option Elab.async false
set_option linter.all false
set_option maxRecDepth 100000
set_option maxHeartbeats 4000000
/-! The law's call from the caller's place itself (its guards are known there). -/
namespace K7
open PySem PySem.Spec PyProof.Rows L2 LamX
/-- what is laid behind the head -/
structure Laid (P : Program) (w : World) (K : PySem.W.Frag) (mg : Str → Option Value) (cs : List (Addr × Addr)) (s : Shared) : Prop where
  kin : K.In s.heap
  glob : s.heap.Ns mainGlobals mg
  blt : ∃ mb, s.heap.Ns builtinsNs mb ∧ ∀ x : Str, x ≠ "__name__" → mb x = bootBuiltins x
  lim : s.heap.NoLimit
  gens : s.gens = #[]
  tab : ∀ p ∈ cs, s.heap.get? p.2 = some { cls := .none, data := .fields #[] }
  nk : ∀ p ∈ cs, K.lookup p.2 = none
  code : ∀ p ∈ cs, PySem.W.CodeHd s.heap p.1 p.2
  bm : ∃ (bm : Addr) (ob : Obj), mg "__builtins__" = some (.ref bm) ∧ bm ≠ builtinsNs ∧ s.heap.get? bm = some ob ∧ ob.cls = .type "module" ∧ ob.dict = some builtinsNs ∧ ob.data = .plain
/-- a heap that tracks the tables, and perhaps the script -/
structure Track (K : PySem.W.Frag) (cs : List (Addr × Addr)) (s : Shared) (a : Addr) (vs : List Value) (H : Hp) : Prop where
  obj : s.heap.get? a = some { cls := .type "list", data := .seq vs.toArray }
  tab : ∀ p ∈ cs, H p.2 = some (.tbl #[])
  only : ∀ b u, H b = some u → (b ∈ cs.map (·.2) ∧ u = .tbl #[]) ∨ (b = a ∧ K.lookup a = none ∧ ∃ o xs, u = .frz o (.lst xs))
section
variable {P : Program} {w : World} {K : PySem.W.Frag} {mg : Str → Option Value} {cs : List (Addr × Addr)} {s : Shared} {a : Addr} {vs : List Value} {H : Hp}
theorem Laid.isT (L : Laid P w K mg cs s) {b : Addr} (hb : b ∈ cs.map (·.2)) : s.heap.get? b = some { cls := .none, data := .fields #[] } := by
  obtain ⟨p, hp, e⟩ := List.mem_map.mp hb
  rw [← e]
  exact L.tab p hp
/-- an object that is no list and no table is not tracked -/
theorem Track.free (t : Track K cs s a vs H) (L : Laid P w K mg cs s) {b : Addr} {o : Obj} (e : s.heap.get? b = some o) (h1 : ∀ vs n, o.data ≠ .seq vs n) (h2 : o.data ≠ .fields #[]) : H b = none := by
  cases q : H b with
  | none => rfl
  | some u =>
    rcases t.only b u q with ⟨hb, _⟩ | ⟨hb, _⟩
    · rw [L.isT hb] at e
      cases e
      exact (h2 rfl).elim
    · rw [hb, t.obj] at e
      cases e
      exact (h1 _ _ rfl).elim
theorem Track.hid (t : Track K cs s a vs H) (L : Laid P w K mg cs s) {b : Addr} {o : Obj} (e : s.heap.get? b = some o) (h1 : ∀ vs n, o.data ≠ .seq vs n) (h2 : o.data ≠ .fields #[]) : (hidT s.heap H).get? b = some o := hidT_get e (t.free L e h1 h2)
theorem Track.ns (t : Track K cs s a vs H) (L : Laid P w K mg cs s) {b : Addr} {m : Str → Option Value} (h : s.heap.Ns b m) : (hidT s.heap H).Ns b m := by
  obtain ⟨o, es, ep, e, d, r⟩ := h
  refine ⟨o, es, ep, t.hid L e (fun vs n z => ?_) (fun z => ?_), d, r⟩ <;> rw [d] at z <;> cases z
theorem Track.kin (t : Track K cs s a vs H) (L : Laid P w K mg cs s) : K.In (hidT s.heap H) := fun b o e => by
  refine hidT_get (L.kin b o e) ?_
  cases q : H b with
  | none => rfl
  | some u =>
    rcases t.only b u q with ⟨hb, _⟩ | ⟨hb, hk, _⟩
    · obtain ⟨p, hp, ep⟩ := List.mem_map.mp hb
      rw [← ep, L.nk p hp] at e
      cases e
    · rw [hb, hk] at e
      cases e
theorem Track.tabB (t : Track K cs s a vs H) (L : Laid P w K mg cs s) {p : Addr × Addr} (hp : p ∈ cs) : TabB (hidT s.heap H) mg p.1 p.2 := by
  have hTp := L.tab p hp
  refine ⟨?_, ?_, fun z => ?_⟩
  · obtain ⟨o, us, file, tf, flags, tg, inF, text, tt, e1, r1, r2, r3, r⟩ := L.code p hp
    refine ⟨o, us, file, tf, flags, tg, inF, text, tt, t.hid L e1 (fun vs n z => ?_) (fun z => ?_), r1, r2, r3, r⟩
    · rw [r2] at z
      cases z
    · rw [r2] at z
      cases z
      simp at r3
  · obtain ⟨bm, ob, b1, b2, b3, b4, b5, b6⟩ := L.bm
    have n1 : bm ≠ mainGlobals := fun q => by
      obtain ⟨o, es, ep, e, d, _⟩ := L.glob
      rw [q, e] at b3
      cases b3
      rw [d] at b6
      cases b6
    have n2 : bm ≠ p.2 := fun q => by
      rw [q, hTp] at b3
      cases b3
      cases b6
    refine ⟨bm, ob, b1, b2, n1, n2, t.hid L b3 (fun vs n z => ?_) (fun z => ?_), b4, b5, b6⟩ <;> rw [b6] at z <;> cases z
  · obtain ⟨o, es, ep, e, d, _⟩ := L.glob
    rw [z, hTp] at e
    cases e
    cases d
theorem Track.env (t : Track K cs s a vs H) (L : Laid P w K mg cs s) (hok : HOk P w H s.heap) : Env0 P w K mg (hidT s.heap H) callerA [] s H := by
  obtain ⟨mb, hb, hbb⟩ := L.blt
  obtain ⟨mc, l1, l2⟩ := L.lim
  exact ⟨rfl, ⟨t.kin L, t.ns L L.glob, ⟨mb, t.ns L hb, hbb⟩, ⟨mc, t.ns L l1, l2⟩⟩, fun b o e => of_hidT e, Nat.le_of_eq (hidT_size _ _), trivial, fun b hb => absurd (show b ∈ ([] : List Addr) from hb) (by simp), hok, .of_eq L.gens⟩
/-- behind the call: all old objects stand, but for the tables, which may have grown -/
theorem Track.fin (t : Track K cs s a vs H) (L : Laid P w K mg cs s) (hok : HOk P w H s.heap) {r : Result} {s' : Shared} (h : CR C8.CX0 [] P w H s (fun v _ => v = .bl true) C8.E0 r s') :
    r = .ok (.ret (.bool true)) ∧ OldK s.heap s'.heap ∧ s'.os = s.os ∧ AllBare s'.gens := by
  cases r with
  | error e => exact (show False from h).elim
  | ok fl =>
    cases fl with
    | next => exact False.elim h
    | brk => exact False.elim h
    | cont => exact False.elim h
    | ret u =>
      obtain ⟨v, H', os, bare, un, hok', ru, q⟩ := h
      have q' : v = .bl true := q
      subst q'
      obtain rfl : u = Value.bool true := ru
      have grown : ∀ {b : Addr}, b ∈ cs.map (·.2) → ∃ more : Array Value, s'.heap.get? b = some { cls := .none, data := .fields more } := fun {b} hb => by
        obtain ⟨p, hp, ep⟩ := List.mem_map.mp hb
        obtain ⟨more, z⟩ := un.tbls p.2 #[] (t.tab p hp)
        rw [← ep]
        exact ⟨_, hok' p.2 _ z⟩
      have stays : ∀ b o, b ∉ cs.map (·.2) → s.heap.get? b = some o → s'.heap.get? b = some o := fun b o nb e => by
        cases q : H b with
        | none => exact un.keep b o e q (by intro z; exact absurd (show b ∈ ([] : List Addr) from z) (by simp)) (by simp)
        | some u =>
          rcases t.only b u q with ⟨z, _⟩ | ⟨_, _, ob, xs, z⟩
          · exact absurd z nb
          · rw [z] at q
            obtain ⟨e1, _⟩ := hok b _ q
            obtain ⟨e2, _⟩ := hok' b _ (un.frzs b ob _ q)
            rw [e] at e1
            cases e1
            exact e2
      refine ⟨rfl, ⟨fun b o e => ?_, fun b o e => ?_⟩, os, bare⟩
      · by_cases hb : b ∈ cs.map (·.2)
        · obtain ⟨more, hm⟩ := grown hb
          obtain ⟨p, hp, ep⟩ := List.mem_map.mp hb
          rw [← ep] at e hm ⊢
          rw [L.tab p hp] at e
          cases e
          exact .inr (.inl ⟨((L.code p hp).tab (L.tab p hp)).isCodeTable, rfl, #[], more, rfl, by rw [Array.empty_append]; exact hm⟩)
        · exact .inl (stays b o hb e)
      · by_cases hb : b ∈ cs.map (·.2)
        · obtain ⟨more, hm⟩ := grown hb
          exact ⟨_, hm⟩
        · exact ⟨o, stays b o hb e⟩
/-- the call, from its run over every such heap -/
theorem law_run {fa : Addr} {ns : List Int} (L : Laid P w K mg cs s) (ha : s.heap.get? a = some { cls := .type "list", data := .seq vs.toArray }) (hi : IntsAre vs ns) (hl : ns.length ≤ sizeLine)
    (R : ∀ H : Hp, Env0 P w K mg (hidT s.heap H) callerA [] s H → (∀ p ∈ cs, TabB (hidT s.heap H) mg p.1 p.2) → (∀ p ∈ cs, H p.2 = some (.tbl #[])) → SqL K H a (ns.map V.int) →
      codeAny (model P w) callerA (.call (.ref fa) ⟨[.ref a], []⟩) (CR C8.CX0 [] P w H s (fun v _ => v = .bl true) C8.E0) s) :
    codeAny (model P w) callerA (.call (.ref fa) ⟨[.ref a], []⟩) (fun r s' => r = .ok (.ret (.bool true)) ∧ OldK s.heap s'.heap ∧ s'.os = s.os ∧ AllBare s'.gens) s := by
  have aT : a ∉ cs.map (·.2) := fun z => by
    have q := L.isT z
    rw [ha] at q
    have z' : Data.seq vs.toArray _ = Data.fields #[] := congrArg Obj.data (Option.some.inj q)
    cases z'
  have go : ∀ H, Track K cs s a vs H → HOk P w H s.heap → SqL K H a (ns.map V.int) → codeAny (model P w) callerA (.call (.ref fa) ⟨[.ref a], []⟩) (fun r s' => r = .ok (.ret (.bool true)) ∧ OldK s.heap s'.heap ∧ s'.os = s.os ∧ AllBare s'.gens) s :=
    fun H t hok hS => codeAny_mono (R H (t.env L hok) (fun p hp => t.tabB L hp) t.tab hS) fun r s' h => t.fin L hok h
  have inT : ∀ p ∈ cs, p.2 ∈ cs.map (·.2) := fun p hp => List.mem_map.mpr ⟨p, hp, rfl⟩
  cases hk : K.lookup a with
  | some o =>
    have e := L.kin a o hk
    rw [ha] at e
    cases e
    have only : ∀ b u, (if b ∈ cs.map (·.2) then some (HO.tbl #[]) else none) = some u → b ∈ cs.map (·.2) ∧ u = .tbl #[] := fun b u z => by
      by_cases hb : b ∈ cs.map (·.2)
      · rw [if_pos hb] at z
        exact ⟨hb, (Option.some.inj z).symm⟩
      · rw [if_neg hb] at z
        cases z
    refine go (fun b => if b ∈ cs.map (·.2) then some (.tbl #[]) else none) ⟨ha, fun p hp => if_pos (inT p hp), fun b u z => .inl (only b u z)⟩ (fun b u z => ?_) (.inr ⟨_, vs.toArray, _, hk, rfl, rfl, rfl, by rw [List.size_toArray, hi.length]; exact hl, by simpa using vals_ints hi⟩)
    obtain ⟨hb, rfl⟩ := only b u z
    exact L.isT hb
  | none =>
    have only : ∀ b u, (if b = a then some (HO.frz { cls := .type "list", data := .seq vs.toArray } (.lst (ns.map V.int))) else if b ∈ cs.map (·.2) then some (.tbl #[]) else none) = some u →
        (b ∈ cs.map (·.2) ∧ u = .tbl #[]) ∨ (b = a ∧ u = .frz { cls := .type "list", data := .seq vs.toArray } (.lst (ns.map V.int))) := fun b u z => by
      by_cases ha' : b = a
      · rw [if_pos ha'] at z
        exact .inr ⟨ha', (Option.some.inj z).symm⟩
      · rw [if_neg ha'] at z
        by_cases hb : b ∈ cs.map (·.2)
        · rw [if_pos hb] at z
          exact .inl ⟨hb, (Option.some.inj z).symm⟩
        · rw [if_neg hb] at z
          cases z
    refine go (fun b => if b = a then some (.frz { cls := .type "list", data := .seq vs.toArray } (.lst (ns.map V.int))) else if b ∈ cs.map (·.2) then some (.tbl #[]) else none)
      ⟨ha, fun p hp => (if_neg (fun z => aT (by rw [← z]; exact inT p hp))).trans (if_pos (inT p hp)), fun b u z => ?_⟩ (fun b u z => ?_) (.inl (.inr ⟨{ cls := .type "list", data := .seq vs.toArray }, if_pos rfl⟩))
    · rcases only b u z with h | ⟨h1, h2⟩
      · exact .inl h
      · exact .inr ⟨h1, hk, _, _, h2⟩
    · rcases only b u z with ⟨h1, rfl⟩ | ⟨rfl, rfl⟩
      · exact L.isT h1
      · exact ⟨ha, by rw [List.length_map]; exact hl, vs, _, vals_ints hi, ha⟩
end
end K7
end

section
set_option Elab.async false
set_option linter.all false
set_option maxRecDepth 100000
set_option maxHeartbeats 4000000
/-! From the head's facts: the own errors, the defs. -/
namespace K7
open PySem PySem.Spec PyProof.Rows L2 LamX
section
variable {P : Program} {K : PySem.W.Frag} {mg : Str → Option Value}
theorem isB_ok {v : Option (Option Value)} {n : String} (h : isB v n = true) : v = some (some (.builtin n)) := He.eqO_ok h
theorem own_of {file x fn : Str} {dvs : List V} {st : Stmt} (e : ownB file K x fn dvs = true) (ei : fnI K x = fnIv st) (form : PySem.ErrX.InitForm st fn) (gC : mg x = some (.ref (He.ga K x))) (gS : mg "super" = none) (hfile : P.main.file = file) (ht : (P.main.scope.names.lookup ("super" : Str)).isSome = false)
    (hb : ∀ (qual : Str) (cc : Addr) (dV kV doc pm : Value) (an : Option Addr) (cdv ct : Value), DflV K dV dvs → ∀ (s : Shared) (a : Addr) (v : Value), K.In s.heap → BindsTo s (PySem.W.fnX "__init__" qual (defArgs st) (defBody st) (defScope st) [("__class__", cc)] dV kV doc pm an cdv ct) ⟨[.ref a, v], []⟩ [("self", .ref a), (fn, v)]) :
    PySem.ErrX.OwnTxt P K mg x st fn (He.ga K x) (He.ma K (He.ga K x) "__init__") := by
  unfold ownB at e
  obtain ⟨e0, e⟩ := He.ba e
  obtain ⟨e1, e⟩ := He.ba e
  obtain ⟨e2, e⟩ := He.ba e
  obtain ⟨e3, e⟩ := He.ba e
  obtain ⟨e4, e⟩ := He.ba e
  obtain ⟨e5, e⟩ := He.ba e
  obtain ⟨e6, e⟩ := He.ba e
  obtain ⟨e7, e⟩ := He.ba e
  obtain ⟨e8, e⟩ := He.ba e
  obtain ⟨e9, e⟩ := He.ba e
  obtain ⟨e10, e⟩ := He.ba e
  obtain ⟨e11, e⟩ := He.ba e
  obtain ⟨e12, e⟩ := He.ba e
  obtain ⟨e13, e⟩ := He.ba e
  obtain ⟨e14, e⟩ := He.ba e
  obtain ⟨e15, e⟩ := He.ba e
  obtain ⟨e16, e⟩ := He.ba e
  obtain ⟨e17, e⟩ := He.ba e
  refine ⟨form, gC, gS, e1, e2, e3, isB_ok e4, isB_ok e5, He.eqO_ok e6, He.eqO_ok e7, He.eqO_ok e8, of_decide_eq_true e9, of_decide_eq_true e10, of_decide_eq_true e11, of_decide_eq_true e12, e13, of_decide_eq_true e14, of_decide_eq_true e15, isB_ok e16, He.eqO_ok e17, ht, ?_⟩
  unfold fnI at ei
  cases q : K.lookup (He.ma K (He.ga K x) "__init__") with
  | none =>
    rw [q] at e
    cases e
  | some o =>
    obtain ⟨oc, od, dt, osl⟩ := o
    rw [q] at e ei
    cases dt with
    | func fd =>
      obtain ⟨n1, n2, n3, n4, n5, n6, n7, n8, n9, n10, n11, n12, n13, n14, n15⟩ := fd
      have i2 : (some (n1, n3, n4, n5, n6, n15) : FnI) = some (("__init__" : Str), defArgs st, FuncBody.stmts (defBody st), defScope st, mainGlobals, builtinsNs) := ei
      simp only [Option.some.injEq, Prod.mk.injEq] at i2
      obtain ⟨h1, h2, h3, h4, h5, h6⟩ := i2
      subst h1 h2 h3 h4 h5 h6
      cases n7 with
      | nil => exact nomatch (show false = true from by cases n13 <;> exact e)
      | cons pc r =>
        obtain ⟨n, cc⟩ := pc
        cases r with
        | cons _ _ => exact nomatch (show false = true from by cases n13 <;> exact e)
        | nil =>
          cases n13 with
          | ref cda =>
            have c2 : (decide (n = "__class__") && (PySem.W.codeIn K (.ref cda) n2 && (He.dflB K n8 dvs &&
              ((match K.lookup cc with
              | some ⟨_, _, .cell (some (.ref C')), _⟩ => decide (C' = He.ga K x)
              | _ => false) &&
              (match K.lookup cda with
              | some ⟨_, _, .fields vs, _⟩ => (match (vs[2]? : Option Value) with
                | some (.str f _) => f == file
                | _ => false)
              | _ => false))))) = true := e
            obtain ⟨c3, c2⟩ := He.ba c2
            obtain ⟨c4, c2⟩ := He.ba c2
            obtain ⟨c5, c2⟩ := He.ba c2
            obtain ⟨c6, c7⟩ := He.ba c2
            have hn : n = ("__class__" : Str) := of_decide_eq_true c3
            subst hn
            split at c6
            · rename_i cl cld C' csl hcc
              have hC : C' = He.ga K x := of_decide_eq_true c6
              subst hC
              split at c7
              · rename_i ccl cdd vs ccs hcda
                split at c7
                · rename_i f tf hvs
                  refine ⟨n2, oc, od, n8, n9, n10, n11, n12, n14, osl, cc, cda, cl, cld, csl, ccl, cdd, ccs, vs, f, tf, rfl, c4, hcc, hcda, hvs, ?_, hb n2 cc n8 n9 n10 n11 n12 (.ref cda) n14 (He.dflB_ok c5)⟩
                  have hf : f = file := beq_iff_eq.mp c7
                  rw [hf, hfile]
                  exact beq_self_eq_true _
                · cases c7
              · cases c7
            · cases c6
          | _ => exact nomatch (show false = true from e)
    | _ => cases e
/-! ### the defs -/
theorem SaysM.fn (c : SaysM K) (i : Nat) {x : Str} {st : Stmt} {dfl : List He.Dv} (h : fns[i]? = some (dOf x st dfl)) : ∃ fd, FnP K x st (dfl.map (He.Dv.v K)) (He.ga K x) fd := by
  have c1 : He.SaysD fas fns K := congrArg (fun z : He.AlD × Bool × FnI × FnI => z.1) c
  exact c1.def_ i h
theorem SaysM.fa (c : SaysM K) (i : Nat) {f : He.Fa} (h : fas[i]? = some f) : f.ok K = true := by
  have c1 : He.SaysD fas fns K := congrArg (fun z : He.AlD × Bool × FnI × FnI => z.1) c
  exact c1.fact i h
theorem SaysM.own (c : SaysM K) : ownB P0.main.file K "InvalidStretches" "at" [.int (-1)] = true ∧ ownB P0.main.file K "InvalidSize" "word" [] = true ∧ tabB K "either_free" = true ∧ tabB K "_law_refusals" = true ∧ tabNe K "either_free" "_law_refusals" = true := by
  have c1 : (ownB P0.main.file K "InvalidStretches" "at" [.int (-1)] && (ownB P0.main.file K "InvalidSize" "word" [] && (tabB K "either_free" && (tabB K "_law_refusals" && tabNe K "either_free" "_law_refusals")))) = true := congrArg (fun z : He.AlD × Bool × FnI × FnI => z.2.1) c
  obtain ⟨a, c1⟩ := He.ba c1
  obtain ⟨b, c1⟩ := He.ba c1
  obtain ⟨d, c1⟩ := He.ba c1
  obtain ⟨e, f⟩ := He.ba c1
  exact ⟨a, b, d, e, f⟩
theorem SaysM.ini1 (c : SaysM K) : fnI K "InvalidStretches" = fnIv sE1 := congrArg (fun z : He.AlD × Bool × FnI × FnI => z.2.2.1) c
theorem SaysM.ini2 (c : SaysM K) : fnI K "InvalidSize" = fnIv sE2 := congrArg (fun z : He.AlD × Bool × FnI × FnI => z.2.2.2) c
/-- the code object of a def, by its table's place -/
theorem fnc_of {x : Str} {st : Stmt} {c P' : Addr} {fd : FuncData} (F : FnP K x st [] (He.ga K x) fd) (ht : PySem.W.tabIn K x = some (c, P')) : FnC K x st c (He.ga K x) fd := by
  obtain ⟨⟨oc, od, dV, kV, doc, pm, an, cdv, ct, osl, e, lk, hcd, hD, hK⟩, kp⟩ := F
  rcases hD with ⟨_, rfl⟩ | ⟨z, _⟩
  · have hc : cdv = .ref c := by
      unfold PySem.W.tabIn at ht
      split at ht
      · rename_i f hf
        have hg : He.ga K x = f := by
          unfold He.ga
          rw [hf]
        rw [hg] at lk
        rw [lk] at ht
        rw [e] at ht
        cases cdv with
        | ref c' =>
          have h2 : (match K.lookup c' with
            | some ⟨_, _, .fields vs, _⟩ => (match (vs[11]? : Option Value) with
              | some (.ref P) => some (c', P)
              | _ => none)
            | _ => none) = some (c, P') := ht
          split at h2
          · split at h2
            · cases h2
              rfl
            · cases h2
          · cases h2
        | _ => exact nomatch (show (none : Option (Addr × Addr)) = some (c, P') from ht)
      · cases ht
    rw [hc] at e hcd
    exact ⟨⟨oc, od, kV, doc, pm, an, ct, osl, e, lk, hcd⟩, kp⟩
  · exact absurd rfl z
end
end K7
end

section
set_option Elab.async false
set_option linter.all false
set_option maxRecDepth 100000
set_option maxHeartbeats 4000000
/-! All that law calls, from the head's facts. -/
namespace K7
open PySem PySem.Spec PyProof.Rows L2 LamX
section
variable {P : Program} {w : World} {K : PySem.W.Frag} {mg : Str → Option Value} {base : Heap} {CX : CXT} {k : Nat} {x : Str} {st : Stmt} {f : Addr} {fd : FuncData} {ps : List Str} {sp : Sp}
theorem Fn7.mk' {ds : List Value} {dvs : List V} (F : FnOk P w K mg base CX k f fd ps sp) (hm : mg x = some (.ref f)) (kp : PySem.W.keepIn K (.ref f) = true) (b : Binds K fd ps ds) (v : Vals dvs ds) : Fn7 P w K mg base CX k x sp dvs := ⟨⟨f, fd, ps, ds, F, hm, kp, b, v⟩⟩
theorem Fn7.no (F : FnP K x st [] f fd) (O : FnOk P w K mg base CX k f fd ps sp) (hm : mg x = some (.ref f))
    (h : ∀ (kV doc pm : Value) (an : Option Addr) (cdv ct : Value) (us : List Value), us.length = ps.length → bindArgs (PySem.W.fnOf x x (defArgs st) (defBody st) (defScope st) .none kV doc pm an cdv ct) ⟨us, []⟩ = pure (ps.zip us)) : Fn7 P w K mg base CX k x sp [] :=
  .mk' O hm F.kp (F.bindsN h) .nil
theorem Fn7.df {dvs dvs' : List V} (n j : Nat) (F : FnP K x st dvs f fd) (O : FnOk P w K mg base CX k f fd ps sp) (hm : mg x = some (.ref f)) (hd : dvs ≠ []) (hn : n + (dvs.length - j) = ps.length) (e : dvs.drop j = dvs')
    (h : ∀ (T : Addr) (kV doc pm : Value) (an : Option Addr) (cdv ct : Value) (us its : List Value), us.length = n → its.length = dvs.length →
      ∃ k, bindArgs (PySem.W.fnOf x x (defArgs st) (defBody st) (defScope st) (.ref T) kV doc pm an cdv ct) ⟨us, []⟩ = seqItems? (.ref T) >>= k ∧ k (some its.toArray) = pure (ps.zip (us ++ its.drop j))) : Fn7 P w K mg base CX k x sp dvs' := by
  obtain ⟨ds, hv, hb⟩ := FunD.binds1 F n j hd hn h
  rw [e] at hv
  exact .mk' O hm F.kp hb hv
theorem Fn7K.no {ks : List Str} {g : List Value → List Value} {gV : List V → List V} (F : FnP K x st [] f fd) (O : FnOk P w K mg base CX k f fd ps sp) (hm : mg x = some (.ref f))
    (h : ∀ (kV doc pm : Value) (an : Option Addr) (cdv ct : Value) (ws : List Value), ws.length = ks.length → bindArgs (PySem.W.fnOf x x (defArgs st) (defBody st) (defScope st) .none kV doc pm an cdv ct) ⟨[], ks.zip ws⟩ = pure (ps.zip (g ws)))
    (hrel : ∀ {zs : List V} {ws : List Value}, Vals zs ws → Vals (gV zs) (g ws)) : Fn7K P w K mg base CX k x ks (fun _ zs => gV zs) sp := ⟨⟨f, fd, ps, _, O, hm, F.kp, kbn_of F h hrel⟩⟩
end
abbrev qE : Str := PySem.Str.ofString "either_free" ++ ".<locals>." ++ "<lambda>"
abbrev qR : Str := PySem.Str.ofString "_law_refusals" ++ ".<locals>." ++ "<lambda>"
abbrev TT2 (Pe Pr : Addr) : List (Addr × Str) := [(Pe, qE), (Pr, qR)]
theorem law_fns {w : World} {K : PySem.W.Frag} {mg : Str → Option Value} {base h : Heap} {ce Pe cr Pr : Addr} (X : K.In h) (G : h.Ns mainGlobals mg) (c : SaysM K) (te : PySem.W.tabIn K "either_free" = some (ce, Pe)) (tr : PySem.W.tabIn K "_law_refusals" = some (cr, Pr)) (hne : Pe ≠ Pr)
    (TBe : TabB base mg ce Pe) (TBr : TabB base mg cr Pr) : LawFns P0 w K mg base (TT2 Pe Pr) (He.ga K "InvalidStretches") (He.ga K "InvalidSize") := by
  have B : Blt mg := ⟨He.free_ok X G (c.fa 25 (f := .free "isinstance") rfl), He.free_ok X G (c.fa 26 (f := .free "int") rfl), He.free_ok X G (c.fa 27 (f := .free "bool") rfl), He.free_ok X G (c.fa 28 (f := .free "list") rfl), He.free_ok X G (c.fa 29 (f := .free "tuple") rfl), He.free_ok X G (c.fa 30 (f := .free "len") rfl),
    He.free_ok X G (c.fa 31 (f := .free "enumerate") rfl), He.free_ok X G (c.fa 32 (f := .free "sorted") rfl), He.free_ok X G (c.fa 33 (f := .free "set") rfl), He.free_ok X G (c.fa 34 (f := .free "all") rfl), He.free_ok X G (c.fa 35 (f := .free "min") rfl), He.free_ok X G (c.fa 36 (f := .free "max") rfl),
    He.free_ok X G (c.fa 37 (f := .free "range") rfl), He.free_ok X G (c.fa 38 (f := .free "abs") rfl), He.free_ok X G (c.fa 39 (f := .free "repr") rfl), He.free_ok X G (c.fa 40 (f := .free "super") rfl)⟩
  obtain ⟨o1, o2, _⟩ := c.own
  have T1 : PySem.ErrX.OwnTxt P0 K mg "InvalidStretches" sE1 "at" _ _ := own_of (P := P0) o1 c.ini1 form1 (PySem.W.mg_of X G (He.eqO_ok (He.ba (show (He.eqO (PySem.W.nsIn K mainGlobals "InvalidStretches") (some (some (.ref (He.ga K "InvalidStretches")))) && _) = true from o1)).1)) B.super rfl rfl
    (fun qual cc dV kV doc pm an cdv ct hD s a v XK => by
      rcases hD with ⟨e, _⟩ | ⟨_, T, o, its, m, rfl, lT, oT, rT⟩
      · cases e
      · refine BindsTo.of_looks fun M => ?_
        cases rT with
        | cons r1 r2 =>
          cases r2
          exact looks_items XK lT oT (.of_pure rfl))
  have T2 : PySem.ErrX.OwnTxt P0 K mg "InvalidSize" sE2 "word" _ _ := own_of (P := P0) o2 c.ini2 form2 (PySem.W.mg_of X G (He.eqO_ok (He.ba (show (He.eqO (PySem.W.nsIn K mainGlobals "InvalidSize") (some (some (.ref (He.ga K "InvalidSize")))) && _) = true from o2)).1)) B.super rfl rfl
    (fun qual cc dV kV doc pm an cdv ct hD s a v XK => by
      rcases hD with ⟨_, rfl⟩ | ⟨e, _⟩
      · exact .of_eq rfl
      · exact absurd rfl e)
  have e11 : PySem.W.exmOne K (.ref (He.ga K "InvalidStretches")) (.ref (He.ga K "InvalidStretches")) = some true := He.exm_ok (c.fa 41 (f := .exm "InvalidStretches" "InvalidStretches" true) rfl)
  have e21 : PySem.W.exmOne K (.ref (He.ga K "InvalidSize")) (.ref (He.ga K "InvalidStretches")) = some false := He.exm_ok (c.fa 42 (f := .exm "InvalidSize" "InvalidStretches" false) rfl)
  have e22 : PySem.W.exmOne K (.ref (He.ga K "InvalidSize")) (.ref (He.ga K "InvalidSize")) = some true := He.exm_ok (c.fa 43 (f := .exm "InvalidSize" "InvalidSize" true) rfl)
  have g : ∀ (i : Nat) {x : Str}, fas[i]? = some (.glo x) → mg x = some (.ref (He.ga K x)) := fun i x h => He.glo_ok X G (c.fa i h)
  obtain ⟨_, F0⟩ := c.fn 0 (x := "is_integer") (st := sIsInt) (dfl := []) rfl
  obtain ⟨_, F1⟩ := c.fn 1 (x := "is_number") (st := sIsNum) (dfl := []) rfl
  obtain ⟨_, F2⟩ := c.fn 2 (x := "is_sequence") (st := sIsSeq) (dfl := []) rfl
  obtain ⟨_, F3⟩ := c.fn 3 (x := "need_many") (st := sMany) (dfl := [.int 0]) rfl
  obtain ⟨_, F4⟩ := c.fn 4 (x := "is_stretch") (st := sIsStr) (dfl := []) rfl
  obtain ⟨_, F5⟩ := c.fn 5 (x := "need_stretches") (st := sNeed) (dfl := [.int (-1)]) rfl
  obtain ⟨_, F6⟩ := c.fn 6 (x := "need_tick") (st := sTick) (dfl := []) rfl
  obtain ⟨_, F7⟩ := c.fn 7 (x := "room_at") (st := sRoom) (dfl := []) rfl
  obtain ⟨_, F8⟩ := c.fn 8 (x := "is_free_at") (st := sFree) (dfl := []) rfl
  obtain ⟨_, F9⟩ := c.fn 9 (x := "need_ticks") (st := sTicks) (dfl := []) rfl
  obtain ⟨_, F10⟩ := c.fn 10 (x := "free_but") (st := sBut) (dfl := [.non]) rfl
  obtain ⟨_, F11⟩ := c.fn 11 (x := "lesser_end") (st := sLess) (dfl := []) rfl
  obtain ⟨_, F12⟩ := c.fn 12 (x := "both_free") (st := sBoth) (dfl := []) rfl
  obtain ⟨_, F13⟩ := c.fn 13 (x := "either_free") (st := sEith) (dfl := []) rfl
  obtain ⟨_, F14⟩ := c.fn 14 (x := "shorten_ends") (st := sShort) (dfl := []) rfl
  obtain ⟨_, F15⟩ := c.fn 15 (x := "_law_box") (st := sBox) (dfl := []) rfl
  obtain ⟨_, F16⟩ := c.fn 16 (x := "_law_take") (st := sTake) (dfl := []) rfl
  obtain ⟨_, F17⟩ := c.fn 17 (x := "_law_pick") (st := sPick) (dfl := []) rfl
  obtain ⟨_, F18⟩ := c.fn 18 (x := "_law_stretches") (st := sStr) (dfl := []) rfl
  obtain ⟨_, F19⟩ := c.fn 19 (x := "_law_has") (st := sHas) (dfl := []) rfl
  obtain ⟨_, F20⟩ := c.fn 20 (x := "_law_row_of") (st := sRow) (dfl := []) rfl
  obtain ⟨_, F21⟩ := c.fn 21 (x := "_law_told") (st := sTold) (dfl := []) rfl
  obtain ⟨_, F22⟩ := c.fn 22 (x := "_law_wrong") (st := sWrong) (dfl := []) rfl
  obtain ⟨_, F23⟩ := c.fn 23 (x := "_law_refusals") (st := sRef) (dfl := []) rfl
  have F13c := fnc_of F13 te
  have F23c := fnc_of F23 tr
  have q1 : ∀ us : List Value, us.length = 1 → ∃ a, us = [a] := fun us h => match us, h with | [a], _ => ⟨a, rfl⟩
  have q2 : ∀ us : List Value, us.length = 2 → ∃ a b, us = [a, b] := fun us h => match us, h with | [a, b], _ => ⟨a, b, rfl⟩
  have q3 : ∀ us : List Value, us.length = 3 → ∃ a b d, us = [a, b, d] := fun us h => match us, h with | [a, b, d], _ => ⟨a, b, d, rfl⟩
  have q4 : ∀ us : List Value, us.length = 4 → ∃ a b d e, us = [a, b, d, e] := fun us h => match us, h with | [a, b, d, e], _ => ⟨a, b, d, e, rfl⟩
  have cI : Fn7 P0 w K mg base CX0 1 "is_integer" spIsInt [] := Fn7.no F0 (ok_is_integer F0 B) (g 0 rfl) (fun _ _ _ _ _ _ us hl => by obtain ⟨_, rfl⟩ := q1 us hl; rfl)
  have cN : Fn7 P0 w K mg base CX0 2 "is_number" spIsNum [] := Fn7.no F1 (ok_is_number F1 F0 (g 0 rfl) B) (g 1 rfl) (fun _ _ _ _ _ _ us hl => by obtain ⟨_, rfl⟩ := q1 us hl; rfl)
  have cS : Fn7 P0 w K mg base CX0 1 "is_sequence" spIsSeq [] := Fn7.no F2 (ok_is_sequence F2 B) (g 2 rfl) (fun _ _ _ _ _ _ us hl => by obtain ⟨_, rfl⟩ := q1 us hl; rfl)
  have cM : Fn7 P0 w K mg base (L2.CX P0 w) 3 "need_many" (spMany (He.ga K "InvalidSize")) [.int 0] := Fn7.df 2 0 F3 (ok_need_many F3 cI T2) (g 3 rfl) (by simp) rfl rfl (fun _ _ _ _ _ _ _ us its hu hi => by obtain ⟨_, _, rfl⟩ := q2 us hu; obtain ⟨_, rfl⟩ := q1 its hi; exact ⟨_, rfl, rfl⟩)
  have cT : Fn7 P0 w K mg base CX0 3 "is_stretch" spStr [] := Fn7.no F4 (ok_is_stretch F4 cI cN cS B) (g 4 rfl) (fun _ _ _ _ _ _ us hl => by obtain ⟨_, _, rfl⟩ := q2 us hl; rfl)
  have oNeed := ok_need_stretches (w := w) (base := base) F5 cS cT T1 B
  have cNeed1 : Fn7 P0 w K mg base (L2.CX P0 w) 4 "need_stretches" (spNeed (He.ga K "InvalidStretches")) [.int (-1)] := Fn7.df 1 0 F5 oNeed (g 5 rfl) (by simp) rfl rfl (fun _ _ _ _ _ _ _ us its hu hi => by obtain ⟨_, rfl⟩ := q1 us hu; obtain ⟨_, rfl⟩ := q1 its hi; exact ⟨_, rfl, rfl⟩)
  have cNeed0 : Fn7 P0 w K mg base (L2.CX P0 w) 4 "need_stretches" (spNeed (He.ga K "InvalidStretches")) [] := Fn7.df 2 1 F5 oNeed (g 5 rfl) (by simp) rfl rfl (fun _ _ _ _ _ _ _ us its hu hi => by obtain ⟨_, _, rfl⟩ := q2 us hu; obtain ⟨_, rfl⟩ := q1 its hi; exact ⟨_, rfl, rfl⟩)
  have cTick : Fn7 P0 w K mg base (L2.CX P0 w) 4 "need_tick" (spTick (He.ga K "InvalidSize")) [] := Fn7.no F6 (ok_need_tick F6 cM) (g 6 rfl) (fun _ _ _ _ _ _ us hl => by obtain ⟨_, rfl⟩ := q1 us hl; rfl)
  have oRoom := ok_room_at (w := w) (base := base) F7 cNeed1 cTick B
  have cRoom : Fn7 P0 w K mg base (L2.CX P0 w) 5 "room_at" (spRoom (He.ga K "InvalidStretches") (He.ga K "InvalidSize")) [] := Fn7.no F7 oRoom (g 7 rfl) (fun _ _ _ _ _ _ us hl => by obtain ⟨_, _, rfl⟩ := q2 us hl; rfl)
  have oFree := ok_is_free_at (w := w) (base := base) F8 cRoom
  have cFree : Fn7 P0 w K mg base (L2.CX P0 w) 6 "is_free_at" (spFree (He.ga K "InvalidStretches") (He.ga K "InvalidSize")) [] := Fn7.no F8 oFree (g 8 rfl) (fun _ _ _ _ _ _ us hl => by obtain ⟨_, _, rfl⟩ := q2 us hl; rfl)
  have cTicks : Fn7 P0 w K mg base (L2.CX P0 w) 3 "need_ticks" (spTicks (He.ga K "InvalidSize")) [] := Fn7.no F9 (ok_need_ticks F9 cS cN T2 B) (g 9 rfl) (fun _ _ _ _ _ _ us hl => by obtain ⟨_, rfl⟩ := q1 us hl; rfl)
  have oBut := ok_free_but (w := w) (base := base) F10 cTicks cM B
  have cBut1 : Fn7 P0 w K mg base (L2.CX P0 w) 4 "free_but" (spBut (He.ga K "InvalidSize")) [.non] := Fn7.df 1 0 F10 oBut (g 10 rfl) (by simp) rfl rfl (fun _ _ _ _ _ _ _ us its hu hi => by obtain ⟨_, rfl⟩ := q1 us hu; obtain ⟨_, rfl⟩ := q1 its hi; exact ⟨_, rfl, rfl⟩)
  have cBut0 : Fn7 P0 w K mg base (L2.CX P0 w) 4 "free_but" (spBut (He.ga K "InvalidSize")) [] := Fn7.df 2 1 F10 oBut (g 10 rfl) (by simp) rfl rfl (fun _ _ _ _ _ _ _ us its hu hi => by obtain ⟨_, _, rfl⟩ := q2 us hu; obtain ⟨_, rfl⟩ := q1 its hi; exact ⟨_, rfl, rfl⟩)
  have cButK : Fn7K P0 w K mg base (L2.CX P0 w) 4 "free_but" ["ticks", "since"] (fun _ zs => zs) (spBut (He.ga K "InvalidSize")) := by
    obtain ⟨its, hb⟩ := FunD.kbindsD (ps := ["ticks", "since"]) F10 0 ["ticks", "since"] (fun _ _ zs => zs) (by simp) (fun _ _ h => h) (fun _ _ _ _ _ _ _ us its ws hu hi hw => by
      obtain rfl := List.length_eq_zero_iff.mp hu
      obtain ⟨_, rfl⟩ := q1 its hi
      obtain ⟨_, _, rfl⟩ := q2 ws hw
      exact ⟨_, rfl, rfl⟩)
    exact ⟨⟨_, _, _, _, oBut, g 10 rfl, F10.kp, hb⟩⟩
  have cLess : Fn7 P0 w K mg base CX0 1 "lesser_end" spLess [] := Fn7.no F11 (ok_lesser_end F11 B) (g 11 rfl) (fun _ _ _ _ _ _ us hl => by obtain ⟨_, _, rfl⟩ := q2 us hl; rfl)
  have oBoth := ok_both_free (w := w) (base := base) F12 cNeed0 cLess B
  have cBoth : Fn7 P0 w K mg base (L2.CX P0 w) 5 "both_free" (spBoth (He.ga K "InvalidStretches")) [] := Fn7.no F12 oBoth (g 12 rfl) (fun _ _ _ _ _ _ us hl => by obtain ⟨_, _, rfl⟩ := q2 us hl; rfl)
  have mE : (Pe, qE) ∈ TT2 Pe Pr := List.mem_cons_self
  have mR : (Pr, qR) ∈ TT2 Pe Pr := List.mem_cons_of_mem _ List.mem_cons_self
  have uE : ∀ p ∈ TT2 Pe Pr, p.1 = Pe → p.2 = qE := fun p hp e => by
    rcases List.mem_cons.mp hp with rfl | hp
    · rfl
    · rw [List.mem_singleton.mp hp] at e
      exact absurd e.symm hne
  have uR : ∀ p ∈ TT2 Pe Pr, p.1 = Pr → p.2 = qR := fun p hp e => by
    rcases List.mem_cons.mp hp with rfl | hp
    · exact absurd e hne
    · rw [List.mem_singleton.mp hp]
  have oEith := ok_either_free (w := w) (base := base) F13c cNeed0 TBe mE uE B
  have cEith : Fn7 P0 w K mg base (L2.CX P0 w) 7 "either_free" (spEith (TT2 Pe Pr) (He.ga K "InvalidStretches")) [] := Fn7.no F13 oEith (g 13 rfl) (fun _ _ _ _ _ _ us hl => by obtain ⟨_, _, rfl⟩ := q2 us hl; rfl)
  have oShort := ok_shorten_ends (w := w) (base := base) F14 cNeed1 cM B
  have cShort : Fn7 P0 w K mg base (L2.CX P0 w) 5 "shorten_ends" (spShort (He.ga K "InvalidStretches") (He.ga K "InvalidSize")) [] := Fn7.no F14 oShort (g 14 rfl) (fun _ _ _ _ _ _ us hl => by obtain ⟨_, _, rfl⟩ := q2 us hl; rfl)
  have cBox : Fn7 P0 w K mg base CX0 1 "_law_box" (spBox K) [] := Fn7.no F15 (ok_box F15 B) (g 15 rfl) (fun _ _ _ _ _ _ us hl => by obtain ⟨_, _, rfl⟩ := q2 us hl; rfl)
  have cTake : Fn7 P0 w K mg base CX0 1 "_law_take" spTake [] := Fn7.no F16 (ok_take F16 B) (g 16 rfl) (fun _ _ _ _ _ _ us hl => by obtain ⟨_, _, rfl⟩ := q2 us hl; rfl)
  have cPick : Fn7 P0 w K mg base CX0 2 "_law_pick" spPick [] := Fn7.no F17 (ok_pick F17 cTake B) (g 17 rfl) (fun _ _ _ _ _ _ us hl => by obtain ⟨_, _, rfl⟩ := q2 us hl; rfl)
  have cStr : Fn7 P0 w K mg base CX0 3 "_law_stretches" spStretch [] := Fn7.no F18 (ok_stretches F18 cTake cPick B) (g 18 rfl) (fun _ _ _ _ _ _ us hl => by obtain ⟨_, rfl⟩ := q1 us hl; rfl)
  have cHas : Fn7 P0 w K mg base CX0 1 "_law_has" spHas [] := Fn7.no F19 (ok_has F19) (g 19 rfl) (fun _ _ _ _ _ _ us hl => by obtain ⟨_, _, rfl⟩ := q2 us hl; rfl)
  have cRow : Fn7 P0 w K mg base CX0 1 "_law_row_of" spRow [] := Fn7.no F20 (ok_row F20 B) (g 20 rfl) (fun _ _ _ _ _ _ us hl => by obtain ⟨_, _, rfl⟩ := q2 us hl; rfl)
  have cWrong : Fn7 P0 w K mg base CX0 3 "_law_wrong" spWrong [] := Fn7.no F22 (ok_wrong F22 cTake cPick B) (g 22 rfl) (fun _ _ _ _ _ _ us hl => by obtain ⟨_, _, rfl⟩ := q2 us hl; rfl)
  have RF : RefFns P0 w K mg base (TT2 Pe Pr) (He.ga K "InvalidStretches") (He.ga K "InvalidSize") := ⟨cWrong, cPick, cBoth, cEith, cRoom, cShort, cBut0, cBut1, cFree⟩
  have cRef : Fn7 P0 w K mg base CX0 11 "_law_refusals" (spRef (TT2 Pe Pr)) [] := Fn7.no F23 (ok_refusals F23c RF F21 (g 21 rfl) TBr mR uR T1 T2 e11 e21 e22) (g 23 rfl) (fun _ _ _ _ _ _ us hl => by obtain ⟨_, _, _, _, rfl⟩ := q4 us hl; rfl)
  refine ⟨B, cBox, cTake, cPick, cStr, cHas, cRow, cRef, cBut0, cBut1, cButK, cBoth, ?_, cEith, ?_, cRoom, ?_, cFree, ?_, cShort, ?_⟩
  · exact Fn7K.no (g := fun ws => ws.reverse) F12 oBoth (g 12 rfl) (fun _ _ _ _ _ _ ws hl => by obtain ⟨_, _, rfl⟩ := q2 ws hl; rfl) vals_rev
  · exact Fn7K.no (g := fun ws => ws) F13 oEith (g 13 rfl) (fun _ _ _ _ _ _ ws hl => by obtain ⟨_, _, rfl⟩ := q2 ws hl; rfl) (fun h => h)
  · exact Fn7K.no (g := fun ws => ws) F7 oRoom (g 7 rfl) (fun _ _ _ _ _ _ ws hl => by obtain ⟨_, _, rfl⟩ := q2 ws hl; rfl) (fun h => h)
  · exact Fn7K.no (g := fun ws => ws) F8 oFree (g 8 rfl) (fun _ _ _ _ _ _ ws hl => by obtain ⟨_, _, rfl⟩ := q2 ws hl; rfl) (fun h => h)
  · exact Fn7K.no (g := fun ws => ws) F14 oShort (g 14 rfl) (fun _ _ _ _ _ _ ws hl => by obtain ⟨_, _, rfl⟩ := q2 ws hl; rfl) (fun h => h)
end K7
end

section
set_option Elab.async false
set_option linter.all false
set_option maxRecDepth 100000
set_option maxHeartbeats 4000000
/-! The end. -/
namespace K7
open PySem PySem.Spec PyProof.Rows L2 LamX
theorem tab_some {K : PySem.W.Frag} {x : Str} (h : tabB K x = true) : ∃ c P, PySem.W.tabIn K x = some (c, P) ∧ K.lookup P = none := by
  unfold tabB at h
  cases e : PySem.W.tabIn K x with
  | none =>
    rw [e] at h
    cases h
  | some p =>
    obtain ⟨c, P⟩ := p
    rw [e] at h
    have h2 : (K.lookup P).isNone = true := h
    exact ⟨c, P, rfl, Option.isNone_iff_eq_none.mp h2⟩
theorem law_call {w : World} {mg mb : Str → Option Value} {K : PySem.W.Frag} {s : Shared} {a fa ce Pe cr Pr : Addr} {vs : List Value} {ns : List Int} (c : SaysM K) (L : Laid P0 w K mg [(ce, Pe), (cr, Pr)] s) (te : PySem.W.tabIn K "either_free" = some (ce, Pe)) (tr : PySem.W.tabIn K "_law_refusals" = some (cr, Pr)) (hne : Pe ≠ Pr)
    (hm : mg "law" = some (.ref fa)) (ha : s.heap.get? a = some { cls := .type "list", data := .seq vs.toArray }) (hi : IntsAre vs ns) (hl : ns.length ≤ 63) :
    codeAny (model P0 w) callerA (.call (.ref fa) ⟨[.ref a], []⟩) (fun r s' => r = .ok (.ret (.bool true)) ∧ OldK s.heap s'.heap ∧ s'.os = s.os ∧ AllBare s'.gens) s := by
  refine law_run L ha hi (Nat.le_trans hl (by decide)) fun H e0 TB hT hS => ?_
  have F := law_fns (w := w) (base := hidT s.heap H) L.kin L.glob c te tr hne (TB (ce, Pe) List.mem_cons_self) (TB (cr, Pr) (List.mem_cons_of_mem _ List.mem_cons_self))
  obtain ⟨fd, FL⟩ := c.fn 24 (x := "law") (st := sLaw) (dfl := []) rfl
  have hf : fa = He.ga K "law" := by
    have e := hm.symm.trans (He.glo_ok L.kin L.glob (c.fa 24 (f := .glo "law") rfl))
    cases e
    rfl
  subst hf
  obtain ⟨oc, od, dV, kV, doc, pm, an, cdv, ct, osl, rfl, lk, hcd, hD, hK⟩ := FL.ex
  rcases hD with ⟨_, rfl⟩ | ⟨z, _⟩
  · refine run_ofS (N := nLaw) (ps := ["_law_script"]) (us := [.ref a]) (vs := [.ref a]) (k := 12) lk hcd scLaw ⟨rfl, by decide, by decide⟩ e0 (.of_eq rfl) (.cons rfl .nil) rfl fun hr' => ?_
    refine ⟨_, law_body (qs := a) (ns := ns) hr' rfl F, ⟨⟨some (.ref a), none, none, none, none, none, none, none, none, none, none, none, none, none, none, none, none, none, none, none, none, none, none, none⟩, rfl, rfl, hS, ?_⟩, hl, fun H' => rfl⟩
    intro p hp
    rcases List.mem_cons.mp hp with rfl | hp
    · exact TabS.nil (hT (ce, Pe) List.mem_cons_self)
    · rw [List.mem_singleton.mp hp]
      exact TabS.nil (hT (cr, Pr) (List.mem_cons_of_mem _ List.mem_cons_self))
  · exact absurd rfl z
end K7
open PySem PySem.W PySem.Calls PyProof.Rows
set_option maxHeartbeats 0 in
theorem PySem.Challenge.cw_nobodymeets_k07_whole_stretches_of_free_holds : PySem.Challenge.rw_nobodymeets_k07_whole_stretches_of_free.Holds := by
  w_on; o_law
  refine HandSHeadRun.head_any (r := K7.R0) (q := K7.qv) (H := K7.hkM) (ob := K7.obS) (M := 3000) (loose := K7.loose) (d := HandSHeadRun.topDef K7.R0.prog 32) (kwd := []) K7.obS_eq
    (by kernel_rfl) (fun s => by kernel_rfl) K7.run (by kernel_rfl) (by kernel_rfl) (by kernel_rfl) (by rfl) (by first | assumption | decide +kernel) (by decide +kernel) ⟨rfl, rfl, rfl, rfl, rfl, by decide +kernel⟩ ?hw ?hc
  case hw => w_witness2
  case hc =>
    refine Att.attach_callB (l := PySem.Challenge.rw_nobodymeets_k07_whole_stretches_of_free) (n := 63) rfl (by kernel_rfl) fun w s₀ s₁ mg mb fa o pm cd doc a vs ns G Y ho hd hcd hmg hobj hints hlen hbits hg => ?_
    obtain ⟨K, KX, c⟩ := Y
    obtain ⟨_, _, b1, b2, b3⟩ := c.own
    obtain ⟨ce, Pe, te, ne⟩ := K7.tab_some b1
    obtain ⟨cr, Pr, tr, nr⟩ := K7.tab_some b2
    have hne : Pe ≠ Pr := by
      unfold K7.tabNe at b3
      rw [te, tr] at b3
      have b4 : (!decide (Pe = Pr)) = true := b3
      exact fun z => by rw [z] at b4; simp at b4
    obtain ⟨C1, t1⟩ := tab_of (x := "either_free") (d := HandSHeadRun.topDef K7.R0.prog 20) G.T KX (by kernel_rfl) te
    obtain ⟨C2, t2⟩ := tab_of (x := "_law_refusals") (d := HandSHeadRun.topDef K7.R0.prog 31) G.T KX (by kernel_rfl) tr
    have hm : mg ("law" : PySem.Str) = some (.ref fa) := by
      have e : (HandSHeadRun.topDef K7.R0.prog 32).name = ("law" : PySem.Str) := by kernel_rfl
      rw [← e]
      exact hmg
    refine K7.law_call (w := w) (mb := mb) c ⟨KX, G.T.g, ⟨mb, G.T.b, G.T.builtins⟩, G.T.nolimit, hg, ?_, ?_, ?_, G.T.bmain⟩ te tr hne hm hobj hints hlen
    · intro p hp
      rcases List.mem_cons.mp hp with rfl | hp
      · exact t1
      · rw [List.mem_singleton.mp hp]
        exact t2
    · intro p hp
      rcases List.mem_cons.mp hp with rfl | hp
      · exact ne
      · rw [List.mem_singleton.mp hp]
        exact nr
    · intro p hp
      rcases List.mem_cons.mp hp with rfl | hp
      · exact C1
      · rw [List.mem_singleton.mp hp]
        exact C2
end
