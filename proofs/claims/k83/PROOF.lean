import PyProof.Rows.All
import Wide.All
import OpenK.AllK
import Wide.FinOn
import HandS.ForExc
import HandS.Defaults
import HandS.Text
import HandS.Wide
import HandS.IsInst
import HandS.StrMore
import HandS.Iter
import HandS.Comp
import HandS.ExcInit
import HandS.ExcOwn
import HandS.Flow
import PySem.Challenge.RW_bestchance_k83_whole_shelves_beside_an_o
import KE.KExcSuper
import PyProof.ExcBaseAll.IndexError
import PyProof.ExcBaseAll.OverflowError
import PyProof.ExcBaseAll.ArithmeticError
import PyProof.ExcBaseAll.RuntimeError
import PyProof.ExcBaseAll.LookupError
import HandS.HeadHook1
import HandS.ExcField
import KE.KStateDown
import Lean
import HandS.Head0
import HandS.Head1
import HandS.Head2
import HandS.HeadEnd
import HandS.HeadHook2
import HandS.HeadHook4
import HandS.HeadNt
import HandS.Head3
import KE.KeyNested
import HandS.TupSets
import KE.SortData
import HandS.Lambda
import HandS.TryMany
import HandS.Zip
import HandS.TupAny
import HandS.Gcd
import HandS.Walk
import PyProof.Rows.RuleB_pow
import HandS.WordsExc
import HandS.Conv
import HandS.ForMost
import HandS.DictComp
import HandS.OwnEq
import KE.KCallOwn
import KE.KFmtOwn
import OpenK.KMeth
import OpenK.KOps
import OpenK.KWalk
import PyProof.FactsAll.object_2
import HandS.Dict
import PyProof.DictUpdate
import PyProof.DictDisplay
import HandS.Property
import HandS.FStr
import HandS.Codes
import PyProof.Rows.StrMeet
import KE.KDictPairs
import HandS.EndTab
import PyProof.ReprRoads
import PyProof.Rows.StrJoinMade
import HandS.TryOnly
import HandS.ListItems
set_option Elab.async false
set_option linter.all false
set_option maxRecDepth 100000
set_option maxHeartbeats 1000000
namespace T83
open PySem PySem.Spec PyProof.Rows L2
abbrev PRG : Program := PySem.Challenge.pw_bestchance_k83_whole_shelves_beside_an_o
def top (i : Nat) : Stmt := PRG.main.body.getD i (.Pass ⟨0, 0, 0, 0⟩)
abbrev FnP (K : PySem.W.Frag) (x q : Str) (st : Stmt) (f : Addr) (fd : FuncData) : Prop := FunD K x q (defArgs st) (defBody st) (defScope st) [] [] f fd
/-- a def that may be called by its name -/
structure Cal (P : Program) (w : World) (K : PySem.W.Frag) (mg : Str → Option Value) (base : Heap) (CX : CXT) (k : Nat) (x : Str) (ps : List Str) (sp : Sp) : Prop where
  ex : ∃ f fd, mg x = some (.ref f) ∧ PySem.W.keepIn K (.ref f) = true ∧ Binds K fd ps [] ∧ FnOk P w K mg base CX k f fd ps sp
/-- where a def stands, and that its name tells it -/
structure At (K : PySem.W.Frag) (mg : Str → Option Value) (x : Str) (st : Stmt) : Prop where
  ex : ∃ f fd, mg x = some (.ref f) ∧ FnP K x x st f fd
section
variable {P : Program} {w : World} {K : PySem.W.Frag} {mg : Str → Option Value} {base : Heap} {CX : CXT}
theorem Cal.mono {j k : Nat} {x : Str} {ps : List Str} {sp : Sp} (C : Cal P w K mg base CX j x ps sp) (h : j ≤ k) : Cal P w K mg base CX k x ps sp := by
  obtain ⟨f, fd, a, b, c, d⟩ := C.ex
  exact ⟨f, fd, a, b, c, d.mono h⟩
theorem Cal.imp {k : Nat} {x : Str} {ps : List Str} {sp sp' : Sp} (C : Cal P w K mg base CX k x ps sp) (h : ∀ vs H Q E, sp' vs H Q E → sp vs H Q E) : Cal P w K mg base CX k x ps sp' := by
  obtain ⟨f, fd, a, b, c, d⟩ := C.ex
  exact ⟨f, fd, a, b, c, d.imp h⟩
/-- a def's promise, by its body -/
theorem cal_of {x : Str} {st : Stmt} {N ps : List Str} {k : Nat} {sp : Sp} (F : At K mg x st) (S : FnScope N ps (defScope st)) (len : ∀ vs H Q E, sp vs H Q E → vs.length = ps.length)
    (hb : ∀ (kV doc pm : Value) (an : Option Addr) (cdv ct : Value) (us : List Value), us.length = ps.length → bindArgs (PySem.W.fnOf x x (defArgs st) (defBody st) (defScope st) .none kV doc pm an cdv ct) ⟨us, []⟩ = pure (ps.zip us))
    (hbody : ∀ (f : Addr) (cdv : Value) (A : Around) (outer : List Env) (s : Shared) (H : Hp) (vs : List V) (Q : VK) (E : XK), Room k (A.deeper (envOfC x (defScope st) s.heap.objs.size f cdv)) → sp vs H Q E →
      ∃ t, PSs (cxOf CX P w K mg base N x (defScope st) f cdv A outer s H E) (defBody st) t ∧ t { nx := fun _ H' => Q .non H', rt := Q } (start N vs) H) : Cal P w K mg base CX (k + 1) x ps sp := by
  obtain ⟨f, fd, hm, D⟩ := F.ex
  exact ⟨f, fd, hm, D.kp, D.bindsN hb, D.ok S len fun cdv A outer s H vs Q E hr h => hbody f cdv A outer s H vs Q E hr h⟩
end
/-- never called -/
theorem cal_none {P : Program} {w : World} {K : PySem.W.Frag} {mg : Str → Option Value} {base : Heap} {CX : CXT} {x : Str} {st : Stmt} {ps : List Str} (k : Nat) (F : At K mg x st)
    (hb : ∀ (kV doc pm : Value) (an : Option Addr) (cdv ct : Value) (us : List Value), us.length = ps.length → bindArgs (PySem.W.fnOf x x (defArgs st) (defBody st) (defScope st) .none kV doc pm an cdv ct) ⟨us, []⟩ = pure (ps.zip us)) : Cal P w K mg base CX k x ps (fun _ _ _ _ => False) := by
  obtain ⟨f, fd, hm, D⟩ := F.ex
  exact ⟨f, fd, hm, D.kp, D.bindsN hb, ⟨fun _ _ _ _ h => h.elim, fun _ _ _ _ _ _ _ _ _ _ _ _ _ h => h.elim⟩⟩
section
variable {X : Cx} {CX : CXT} {k : Nat} {x : Str} {ps : List Str} {sp : Sp} {e : Expr} {es : List Expr} {t : TA} {p pos : Pos} {E : XK}
theorem pe_cal (C : Cal X.prog X.w X.K X.mg X.base CX k x ps sp) (hr : Room k X.A) (hg : Gl X x) (hx : Passes CX X E) (ha : PA X (e :: es) t) (hdb : (x == ("__debug__" : Str)) = false := by decide)
    (he : starEach (e :: es) X.env = (false, eval e X.env) :: starEach es X.env := by rfl) (hpl : (backTo pos (starEach es X.env)).any (·.1) = false := by rfl) : PE X (.Call (.Name x p) (e :: es) [] pos) (tCall sp [] E t) := by
  obtain ⟨f, fd, a, b, c, d⟩ := C.ex
  exact pe_call d hr hg a b c .nil hx ha hdb he hpl
/-- in a try: what the callee lets out is the body's wish -/
theorem pe_calS {W : WX} (tk : Takes X W) (C : Cal X.prog X.w X.K X.mg X.base (L2.CX X.prog X.w) k x ps sp) (hr : Room k X.A) (hg : Gl X x) (ha : PA X (e :: es) t) (hdb : (x == ("__debug__" : Str)) = false := by decide)
    (he : starEach (e :: es) X.env = (false, eval e X.env) :: starEach es X.env := by rfl) (hpl : (backTo pos (starEach es X.env)).any (·.1) = false := by rfl) : PE X (.Call (.Name x p) (e :: es) [] pos) (tCallS sp (WE W) t) := by
  obtain ⟨f, fd, a, b, c, d⟩ := C.ex
  exact pe_callS d hr hg a b c (fun σ => passAt tk σ) ha hdb he hpl
end
/-- a module's constants -/
theorem pe_gi {X : Cx} {x : Str} {i : Int} {pos : Pos} (hm : ∃ t, X.mg x = some (.int i t)) (hg : Gl X x := by rfl) (hd : (x == ("__debug__" : Str)) = false := by decide) : PE X (.Name x pos) (tC (.int i)) := by
  obtain ⟨t, h⟩ := hm
  exact pe_glob hg h ⟨_, rfl⟩ hd
theorem pe_gs {X : Cx} {x z : Str} {pos : Pos} (hm : ∃ t, X.mg x = some (.str z t)) (hg : Gl X x := by rfl) (hd : (x == ("__debug__" : Str)) = false := by decide) : PE X (.Name x pos) (tC (.str z)) := by
  obtain ⟨t, h⟩ := hm
  exact pe_glob hg h ⟨_, rfl⟩ hd
/-! ### data -/
mutual
theorem dp_same {K : PySem.W.Frag} {H H' : Hp} (e : Same H H') : ∀ {v : V} {d : PyData}, Dp K H v d → Dp K H' v d
  | _, _, .non => .non
  | _, _, .bl b => .bl b
  | _, _, .int i => .int i
  | _, _, .str x => .str x
  | _, _, .lst h k => .lst (e.seq h) (dpall_same e k)
  | _, _, .tup h k => .tup (by
      rcases h with h | h
      · rcases h with h | ⟨o, h⟩
        · exact .inl (.inl (e _ _ h))
        · exact .inl (.inr ⟨o, e _ _ h⟩)
      · exact .inr h) (dpall_same e k)
theorem dpall_same {K : PySem.W.Frag} {H H' : Hp} (e : Same H H') : ∀ {vs : List V} {ds : List PyData}, DpAll K H vs ds → DpAll K H' vs ds
  | _, _, .nil => .nil
  | _, _, .cons h k => .cons (dp_same e h) (dpall_same e k)
end
/-! plain things at v: None, bools, ints, texts, tuples of such -/
/-- parts, of one pair or more: such a tuple is laid as an object known -/
def prtB : List PyData → Bool
  | .tuple [.int _, .int _] :: _ => true
  | _ => false
/-- a tuple whose object has no dict of its own -/
def Pt (H : Hp) (a : Addr) (xs : List V) : Prop := ∃ o : Obj, o.dict = none ∧ H a = some (.frz o (.tup xs))
mutual
inductive Tp (H : Hp) : V → PyData → Prop
  | non : Tp H .non .none
  | bl (b : Bool) : Tp H (.bl b) (.bool b)
  | int (i : Int) : Tp H (.int i) (.int i)
  | str (x : Str) : Tp H (.str x) (.str x)
  | tup {a : Addr} {xs : List V} {ds : List PyData} (h : H a = some (.tup xs)) (k : TpAll H xs ds) (n : prtB ds = false := by rfl) : Tp H (.ref a) (.tuple ds)
  | prt {a : Addr} {xs : List V} {ds : List PyData} (h : Pt H a xs) (k : TpAll H xs ds) (n : prtB ds = true := by rfl) : Tp H (.ref a) (.tuple ds)
inductive TpAll (H : Hp) : List V → List PyData → Prop
  | nil : TpAll H [] []
  | cons {v : V} {vs : List V} {d : PyData} {ds : List PyData} : Tp H v d → TpAll H vs ds → TpAll H (v :: vs) (d :: ds)
end
/-- the tuples stand -/
def tupl : HO → Prop
  | .tup _ => True
  | .frz _ (.tup _) => True
  | _ => False
def TupK (H H' : Hp) : Prop := ∀ a o, H a = some o → tupl o → H' a = some o
theorem _root_.L2.Same.tups {H H' : Hp} (e : Same H H') : TupK H H' := fun a xs h _ => e _ _ h
theorem TupK.trans {H H1 H2 : Hp} (a : TupK H H1) (b : TupK H1 H2) : TupK H H2 := fun c xs h t => b c xs (a c xs h t) t
theorem tk_upd {H : Hp} {D : Addr} {u o : HO} (h : H D = some u) (n : ¬ tupl u) : TupK H (upd H D o) := fun b v e t => by
  have : b ≠ D := fun z => by
    rw [z, h] at e
    cases e
    exact n t
  rw [upd_ne this]
  exact e
theorem Pt.keep {H H' : Hp} (e : TupK H H') {a : Addr} {xs : List V} (h : Pt H a xs) : Pt H' a xs := by
  obtain ⟨o, d, h⟩ := h
  exact ⟨o, d, e _ _ h True.intro⟩
theorem Pt.rd {H : Hp} {a : Addr} {xs : List V} (h : Pt H a xs) : Rd H a (.tup xs) := by
  obtain ⟨o, d, h⟩ := h
  exact .inr ⟨o, h⟩
theorem _root_.L2.Same.rd {H H' : Hp} (e : Same H H') {a : Addr} {u : HO} (h : Rd H a u) : Rd H' a u := by
  rcases h with h | ⟨o, h⟩
  · exact .inl (e _ _ h)
  · exact .inr ⟨o, e _ _ h⟩
mutual
theorem Tp.keep {H H' : Hp} (e : TupK H H') : ∀ {v : V} {d : PyData}, Tp H v d → Tp H' v d
  | _, _, .non => .non
  | _, _, .bl b => .bl b
  | _, _, .int i => .int i
  | _, _, .str x => .str x
  | _, _, .tup h k n => .tup (e _ _ h True.intro) (TpAll.keep e k) n
  | _, _, .prt h k n => .prt (h.keep e) (TpAll.keep e k) n
theorem TpAll.keep {H H' : Hp} (e : TupK H H') : ∀ {vs : List V} {ds : List PyData}, TpAll H vs ds → TpAll H' vs ds
  | _, _, .nil => .nil
  | _, _, .cons h k => .cons (Tp.keep e h) (TpAll.keep e k)
end
mutual
theorem Tp.dp {K : PySem.W.Frag} {H : Hp} : ∀ {v : V} {d : PyData}, Tp H v d → Dp K H v d
  | _, _, .non => .non
  | _, _, .bl b => .bl b
  | _, _, .int i => .int i
  | _, _, .str x => .str x
  | _, _, .tup h k _ => .tup (SqT.of h) (TpAll.dp k)
  | _, _, .prt h k _ => .tup (.inl h.rd) (TpAll.dp k)
theorem TpAll.dp {K : PySem.W.Frag} {H : Hp} : ∀ {vs : List V} {ds : List PyData}, TpAll H vs ds → DpAll K H vs ds
  | _, _, .nil => .nil
  | _, _, .cons h k => .cons (Tp.dp h) (TpAll.dp k)
end
theorem TpAll.len {H : Hp} : ∀ {vs : List V} {ds : List PyData}, TpAll H vs ds → vs.length = ds.length
  | _, _, .nil => rfl
  | _, _, .cons _ k => congrArg Nat.succ (TpAll.len k)
theorem TpAll.get {H : Hp} : ∀ {vs : List V} {ds : List PyData}, TpAll H vs ds → ∀ {i : Nat} {v : V}, vs[i]? = some v → ∃ d, ds[i]? = some d ∧ Tp H v d
  | _, _, .nil, i, v, h => by simp at h
  | _, _, .cons h k, 0, v, e => by
    have : _ = v := Option.some.inj e
    subst this
    exact ⟨_, rfl, h⟩
  | _, _, .cons h k, i + 1, v, e => TpAll.get k (i := i) e
theorem TpAll.app {H : Hp} : ∀ {vs : List V} {ds : List PyData} {v : V} {d : PyData}, TpAll H vs ds → Tp H v d → TpAll H (vs ++ [v]) (ds ++ [d])
  | _, _, _, _, .nil, h => .cons h .nil
  | _, _, _, _, .cons a k, h => .cons a (TpAll.app k h)
/-- such data, or a list, or the empty dict -/
inductive Dv (H : Hp) : V → PyData → Prop
  | tp {v : V} {d : PyData} (h : Tp H v d) : Dv H v d
  | lst {a : Addr} {xs : List V} (h : H a = some (.lst xs)) : Dv H (.ref a) (.list [])
  | emp {a : Addr} (h : H a = some (.dK [])) : Dv H (.ref a) (.dict [])
theorem Dv.same {H H' : Hp} (e : Same H H') {v : V} {d : PyData} (h : Dv H v d) : Dv H' v d := by
  cases h with
  | tp h => exact .tp (h.keep e.tups)
  | lst h => exact .lst (e _ _ h)
  | emp h => exact .emp (e _ _ h)
def tyN : PyData → String
  | .none => "NoneType"
  | .bool _ => "bool"
  | .int _ => "int"
  | .str _ => "str"
  | .list _ => "list"
  | .tuple _ => "tuple"
  | .dict _ => "dict"
theorem Dv.ty {K : PySem.W.Frag} {H : Hp} {v : V} {d : PyData} (h : Dv H v d) : TyX K H v (.type (tyN d)) := by
  cases h with
  | emp h => exact .base (.dK h)
  | lst h => exact .base (.lst h)
  | tp h =>
    cases h with
    | non => exact .base .non
    | bl b => exact .base (.bl b)
    | int i => exact .base (.int i)
    | str x => exact .base (.str x)
    | tup h _ _ => exact .base (.tup h)
    | prt h _ _ =>
      obtain ⟨o, _, h⟩ := h
      exact .fTuple h
def isI : PyData → Bool
  | .int _ => true
  | _ => false
def isB : PyData → Bool
  | .bool _ => true
  | _ => false
def isS : PyData → Bool
  | .str _ => true
  | _ => false
def isT : PyData → Bool
  | .tuple _ => true
  | _ => false
def isN : PyData → Bool
  | .none => true
  | _ => false
theorem kit_int {K : PySem.W.Frag} : ∀ d : PyData, PySem.W.kitOne K (.type (tyN d)) (.type "int") = some (isI d || isB d)
  | .none => kit_ty (a := "NoneType") (b := "int") (show kitB "NoneType" "int" = some false by decide +kernel)
  | .bool _ => kit_ty (a := "bool") (b := "int") (show kitB "bool" "int" = some true by decide +kernel)
  | .int _ => kit_ty (a := "int") (b := "int") (show kitB "int" "int" = some true by decide +kernel)
  | .str _ => kit_ty (a := "str") (b := "int") (show kitB "str" "int" = some false by decide +kernel)
  | .list _ => kit_ty (a := "list") (b := "int") (show kitB "list" "int" = some false by decide +kernel)
  | .tuple _ => kit_ty (a := "tuple") (b := "int") (show kitB "tuple" "int" = some false by decide +kernel)
  | .dict _ => kit_ty (a := "dict") (b := "int") (show kitB "dict" "int" = some false by decide +kernel)
theorem kit_bool {K : PySem.W.Frag} : ∀ d : PyData, PySem.W.kitOne K (.type (tyN d)) (.type "bool") = some (isB d)
  | .none => kit_ty (a := "NoneType") (b := "bool") (show kitB "NoneType" "bool" = some false by decide +kernel)
  | .bool _ => kit_ty (a := "bool") (b := "bool") (show kitB "bool" "bool" = some true by decide +kernel)
  | .int _ => kit_ty (a := "int") (b := "bool") (show kitB "int" "bool" = some false by decide +kernel)
  | .str _ => kit_ty (a := "str") (b := "bool") (show kitB "str" "bool" = some false by decide +kernel)
  | .list _ => kit_ty (a := "list") (b := "bool") (show kitB "list" "bool" = some false by decide +kernel)
  | .tuple _ => kit_ty (a := "tuple") (b := "bool") (show kitB "tuple" "bool" = some false by decide +kernel)
  | .dict _ => kit_ty (a := "dict") (b := "bool") (show kitB "dict" "bool" = some false by decide +kernel)
theorem kit_str {K : PySem.W.Frag} : ∀ d : PyData, PySem.W.kitOne K (.type (tyN d)) (.type "str") = some (isS d)
  | .none => kit_ty (a := "NoneType") (b := "str") (show kitB "NoneType" "str" = some false by decide +kernel)
  | .bool _ => kit_ty (a := "bool") (b := "str") (show kitB "bool" "str" = some false by decide +kernel)
  | .int _ => kit_ty (a := "int") (b := "str") (show kitB "int" "str" = some false by decide +kernel)
  | .str _ => kit_ty (a := "str") (b := "str") (show kitB "str" "str" = some true by decide +kernel)
  | .list _ => kit_ty (a := "list") (b := "str") (show kitB "list" "str" = some false by decide +kernel)
  | .tuple _ => kit_ty (a := "tuple") (b := "str") (show kitB "tuple" "str" = some false by decide +kernel)
  | .dict _ => kit_ty (a := "dict") (b := "str") (show kitB "dict" "str" = some false by decide +kernel)
theorem kit_tuple {K : PySem.W.Frag} : ∀ d : PyData, PySem.W.kitOne K (.type (tyN d)) (.type "tuple") = some (isT d)
  | .none => kit_ty (a := "NoneType") (b := "tuple") (show kitB "NoneType" "tuple" = some false by decide +kernel)
  | .bool _ => kit_ty (a := "bool") (b := "tuple") (show kitB "bool" "tuple" = some false by decide +kernel)
  | .int _ => kit_ty (a := "int") (b := "tuple") (show kitB "int" "tuple" = some false by decide +kernel)
  | .str _ => kit_ty (a := "str") (b := "tuple") (show kitB "str" "tuple" = some false by decide +kernel)
  | .list _ => kit_ty (a := "list") (b := "tuple") (show kitB "list" "tuple" = some false by decide +kernel)
  | .tuple _ => kit_ty (a := "tuple") (b := "tuple") (show kitB "tuple" "tuple" = some true by decide +kernel)
  | .dict _ => kit_ty (a := "dict") (b := "tuple") (show kitB "dict" "tuple" = some false by decide +kernel)
theorem isW_eq (d : PyData) : ((isI d || isB d) && !isB d) = isI d := by cases d <;> rfl
section
variable {P : Program} {w : World} {K : PySem.W.Frag} {mg : Str → Option Value} {base : Heap}
/-! ### isinstance(x, T), T a built-in type -/
theorem pe_isi {X : Cx} {e : Expr} {te : TE} {n : Str} {T : String} {p1 p2 pos : Pos} (hm : X.mg "isinstance" = none) (hT : X.mg n = none) (he : PE X e te) (g1 : Gl X "isinstance" := by rfl) (g2 : Gl X n := by rfl) (hb : bootBuiltins n = some (.type T) := by decide +kernel) (hn : n ≠ "__name__" := by decide) (hd : (n == ("__debug__" : Str)) = false := by decide)
    (h1 : starEach (e :: [.Name n p2]) X.env = (false, eval e X.env) :: starEach [.Name n p2] X.env := by rfl) (h2 : starEach (.Name n p2 :: []) X.env = (false, eval (.Name n p2) X.env) :: starEach [] X.env := by rfl) (hpl : (backTo pos (starEach [.Name n p2] X.env)).any (·.1) = false := by rfl) :
    PE X (.Call (.Name "isinstance" p1) [e, .Name n p2] [] pos) (tCB (rIsi X.K) (tCons te (tCons (tC (.ty T)) tNil))) :=
  pe_callB call_isi g1 hm (by decide +kernel) (pa_cons he (pa_cons (pe_bltn g2 hT hb rfl hn hd) pa_nil h2) h1) (he := h1) (hpl := hpl)
end
end T83

set_option Elab.async false
set_option linter.all false
set_option maxRecDepth 100000
set_option maxHeartbeats 4000000
/-! built-in bases of own exceptions -/
namespace XB
open PySem PySem.Spec PyProof.Rows L2
/-- tl: the base and what is above it; nB: whose __new__ makes it; iB: whose __init__ -/
structure BX (tl : List Value) (nB newId i0 : String) (b0 : List Value) (iB initId : String) : Prop where
  mkr : ExcBaseFacts nB newId i0 b0
  cN : tl.contains (.type nB) = true
  cA : tl.contains (.type "AttributeError") = false
  cM : tl.contains (.type "NameError") = false
  cI : tl.contains (.type iB) = true
  obj : tl.contains (.type "object") = true
  iSplit : splitId initId = some (iB, "__init__")
  iKind : builtinKind initId = some .slot
  iRow : Manifest.signature? initId = some ⟨.positional, "*", iB, .self, [⟨"args", .varPos, false⟩]⟩
  iEntry : entryFor table initId = some Builtin.«BaseException.__init__»
  iPlain : plainId initId = true
  iStart : initId.startsWith "lifetime." = false
  iStar : (iB != "*") = true
  pass : ∀ self : Value, refuseLoop self "__setattr__" tl = pure ()
  kx : PySem.W.KxsFacts iB initId
abbrev tlI : List Value := [.type "IndexError", .type "LookupError", .type "Exception", .type "BaseException", .type "object"]
abbrev tlK : List Value := [.type "KeyError", .type "LookupError", .type "Exception", .type "BaseException", .type "object"]
abbrev tlO : List Value := [.type "OverflowError", .type "ArithmeticError", .type "Exception", .type "BaseException", .type "object"]
abbrev tlA : List Value := [.type "ArithmeticError", .type "Exception", .type "BaseException", .type "object"]
abbrev tlR : List Value := [.type "RuntimeError", .type "Exception", .type "BaseException", .type "object"]
theorem bx_of {B newId initId : String} {tl : List Value} (F : ExcBaseFacts B newId initId tl) (ho : tl.contains (.type "object") = true) (hp : ∀ self : Value, refuseLoop self "__setattr__" tl = pure ()) (kx : PySem.W.KxsFacts B initId) (hs : initId.startsWith "lifetime." = false := by decide +kernel) : BX tl B newId initId tl B initId :=
  ⟨F, F.hasB, F.noAttr, F.noName, F.hasB, ho, F.initSplit, F.initKind, F.initRow, F.initEntry, F.init.plain, hs, F.noStar, hp, kx⟩
theorem bx_I : BX tlI "IndexError" "IndexError.__new__" "IndexError.__init__" tlI "IndexError" "IndexError.__init__" := bx_of PySem.F.excBase_IndexError (by decide +kernel) (fun self => by kernel_rfl) PySem.W.kxs_IndexError
theorem bx_O : BX tlO "OverflowError" "OverflowError.__new__" "OverflowError.__init__" tlO "OverflowError" "OverflowError.__init__" := bx_of PySem.F.excBase_OverflowError (by decide +kernel) (fun self => by kernel_rfl) PySem.W.kxs_OverflowError
theorem bx_A : BX tlA "ArithmeticError" "ArithmeticError.__new__" "ArithmeticError.__init__" tlA "ArithmeticError" "ArithmeticError.__init__" := bx_of PySem.F.excBase_ArithmeticError (by decide +kernel) (fun self => by kernel_rfl) PySem.W.kxs_ArithmeticError
theorem bx_R : BX tlR "RuntimeError" "RuntimeError.__new__" "RuntimeError.__init__" tlR "RuntimeError" "RuntimeError.__init__" := bx_of PySem.F.excBase_RuntimeError (by decide +kernel) (fun self => by kernel_rfl) PySem.W.kxs_RuntimeError
theorem bx_K : BX tlK "LookupError" "LookupError.__new__" "LookupError.__init__" [.type "LookupError", .type "Exception", .type "BaseException", .type "object"] "KeyError" "KeyError.__init__" where
  mkr := PySem.F.excBase_LookupError
  cN := by decide +kernel
  cA := by decide +kernel
  cM := by decide +kernel
  cI := by decide +kernel
  obj := by decide +kernel
  iSplit := by kernel_rfl
  iKind := by kernel_rfl
  iRow := by kernel_rfl
  iEntry := entryFor_alias (id' := "BaseException.__init__") (by rw [fastTable_eq_tree]; kernel_rfl) (by first | rfl | decide +kernel) (by decide +kernel) (by rw [fastTable_eq_tree]; kernel_rfl)
  iPlain := by decide +kernel
  iStart := by decide +kernel
  iStar := by decide +kernel
  pass := fun self => by kernel_rfl
  kx := ⟨by show builtinType _ = _; rw [builtinType_eq_fast]; kernel_rfl, by first | kernel_rfl | rfl⟩
section
variable {M : Model} {A : Around} {E : Value → Shared → Prop} {h : Heap} {g : Array GenState} {d : Drawn} {t : Nat} {os : OsState}
variable {nm q : Str} {C N : Addr} {bs tl b0 : List Value} {hdct : Bool} {sn : List Str} {sub : List Value} {ab : Bool} {col : Option Bool} {dd : Option Addr} {k0 k1 k2 k3 k5 : Option Value} {nB newId i0 iB initId : String}
theorem chk_new (F : BX tl nB newId i0 b0 iB initId) {rest : List Value} {Q : Unit → Shared → Prop} (hC : h.get? C = some (excClassObj nm q C N bs tl hdct sn sub ab col dd k0 k1 k2 k3 k5 newId)) (hq : Q () ⟨h, g, d, t, os⟩) :
    wpAny M A (checkBuiltinCall newId ⟨.ref C :: rest, []⟩) Q E ⟨h, g, d, t, os⟩ := by
  have c1 : (Value.ref C :: tl).contains (.type nB) = true := by rw [List.contains_cons, F.cN, Bool.or_true]
  have c2 := F.mkr.noStar
  simp only [checkBuiltinCall, F.mkr.newKind, F.mkr.newSplit, F.mkr.newRow]
  repeat (first | refine wpAny_loadPart_at hC ?_ | (refine wpAny_isSubtype_exc hC ?_; rw [c1]) | refine wpAny_staticBase_exc hC ?_ | refine wpAny_madeBy_exc hC ?_ | simp only [bne_self_eq_false, Bool.false_eq_true, if_false] | wp_step)
  exact hq
theorem chk_init (F : BX tl nB newId i0 b0 iB initId) {e : Addr} {oe : Obj} {rest : List Value} {Q : Unit → Shared → Prop} (hC : h.get? C = some (excClassObj nm q C N bs tl hdct sn sub ab col dd k0 k1 k2 k3 k5 newId)) (he : h.get? e = some oe) (hcls : oe.cls = .ref C) (hq : Q () ⟨h, g, d, t, os⟩) :
    wpAny M A (checkBuiltinCall initId ⟨.ref e :: rest, []⟩) Q E ⟨h, g, d, t, os⟩ := by
  have c1 : (Value.ref C :: tl).contains (.type iB) = true := by rw [List.contains_cons, F.cI, Bool.or_true]
  have c2 := F.iStar
  simp only [checkBuiltinCall, F.iKind, F.iSplit, F.iRow]
  repeat (first | (with_reducible refine wpAny_loadPart_at he ?_; rw [hcls]) | with_reducible refine wpAny_loadPart_at hC ?_ | (with_reducible refine wpAny_isSubtype_exc hC ?_; rw [c1]) | wp_step)
  refine wpAny_onRaise ?_
  rw [show ∀ (a b : String) (n : Nat), Bind.check ⟨.positional, "*", iB, .self, [⟨"args", .varPos, false⟩]⟩ a b n (List.map (fun x => x.fst) ({ pos := Value.ref e :: rest } : Args).kw) = pure () from fun a b n => check_star_args _ _ _ _ _ _]
  exact wpAny_pure hq
theorem bnd_init (F : BX tl nB newId i0 b0 iB initId) {e : Addr} {oe : Obj} {rest : List Value} {Q : Unit → Shared → Prop} (hC : h.get? C = some (excClassObj nm q C N bs tl hdct sn sub ab col dd k0 k1 k2 k3 k5 newId)) (he : h.get? e = some oe) (hcls : oe.cls = .ref C) (hq : Q () ⟨h, g, d, t, os⟩) :
    wpAny M A (checkBoundCall initId ⟨.ref e :: rest, []⟩) Q E ⟨h, g, d, t, os⟩ := by
  have c2 := F.iStar
  simp only [checkBoundCall, F.iKind, F.iRow]
  repeat (first | (with_reducible refine wpAny_loadPart_at he ?_; rw [hcls]) | with_reducible refine wpAny_loadPart_at hC ?_ | wp_step)
  refine wpAny_onRaise ?_
  rw [show ∀ (a b : String) (n : Nat), Bind.check ⟨.positional, "*", iB, .self, [⟨"args", .varPos, false⟩]⟩ a b n (List.map (fun x => x.fst) ({ pos := Value.ref e :: rest } : Args).kw) = pure () from fun a b n => check_star_args _ _ _ _ _ _]
  exact wpAny_pure hq
end
section
variable {prog : Program} {w : World} {A : Around} {E : Value → Shared → Prop} {R : Result → Shared → Prop} {h : Heap} {g : Array GenState} {d : Drawn} {t : Nat} {os : OsState}
variable {nm q : Str} {C N : Addr} {bs tl b0 : List Value} {hdct : Bool} {sn : List Str} {sub : List Value} {ab : Bool} {col : Option Bool} {dd : Option Addr} {k0 k1 k2 k3 k5 : Option Value} {nB newId i0 iB initId : String}
theorem make_at (F : BX tl nB newId i0 b0 iB initId) {rest : List Value} (hC : h.get? C = some (excClassObj nm q C N bs tl hdct sn sub ab col dd k0 k1 k2 k3 k5 newId)) (hr : rest.length ≤ sizeLine)
    (hq : R (.ok (.ret (.ref (h.objs.size + 1)))) ⟨(h.push (PySem.W.kdv_tup rest)).push (PySem.HandSPX.excO C h.objs.size), g, d, t, os⟩) : codeAny (model prog w) A (.builtin newId ⟨.ref C :: rest, []⟩) R ⟨h, g, d, t, os⟩ := by
  have c0 := F.mkr.ends
  have c1 : (Value.ref C :: tl).contains (.type nB) = true := by rw [List.contains_cons, F.cN, Bool.or_true]
  have c2 : (Value.ref C :: tl).contains (.type "AttributeError") = false := by rw [List.contains_cons, F.cA]; rfl
  have c3 : (Value.ref C :: tl).contains (.type "NameError") = false := by rw [List.contains_cons, F.cM]; rfl
  refine codeAny_builtinAt F.mkr.entry ?_
  unfold Builtin.«BaseException.__new__»
  refine PySem.wpAt_bind ?_
  show PySem.wpAt _ _ _ (stack >>= _) _ _ _
  refine PySem.wpAt_bind (PySem.wpAt_stack fun p below => PySem.wpAt_of_wpAny ?_)
  wp_walk
  refine PySem.wpAt_of_wpAny ?_
  rw [F.mkr.owner]
  repeat (first | with_reducible refine wpAny_madeHere_exc F.mkr.canon hC ?_ | with_reducible refine wpAny_loadPart_at hC ?_ | (with_reducible refine wpAny_isSubtype_exc hC ?_; first | rw [c1] | rw [c2] | rw [c3]) | wp_step)
  show R _ _
  rw [Heap.size_push]
  exact hq
theorem tcall_at (F : BX tl nB newId i0 b0 iB initId) {rest : List Value} {fI : Addr} {Q : PySem.Fin → Shared → Prop} (hC : h.get? C = some (excClassObj nm q C N bs tl hdct sn sub ab col dd k0 k1 k2 k3 k5 newId)) (hi : PySem.W.Looks (model prog w) h (typeLookup (.ref C) "__init__") (some (.ref fI)))
    (hb : ∀ self, PySem.W.Looks (model prog w) h (bindSpecial (.ref fI) self) (.ref fI, [self])) (hr : rest.length ≤ sizeLine)
    (hq : codeAny (model prog w) A (.call (.ref fI) ⟨.ref (h.objs.size + 1) :: rest, []⟩) (fun r s' => match r with | .ok (.ret v) => v = .none ∧ Q (.done (.ret (.ref (h.objs.size + 1)))) s' | .ok _ => False | .error e => E e s') ⟨(h.push (PySem.W.kdv_tup rest)).push (PySem.HandSPX.excO C h.objs.size), g, d, t, os⟩) :
    wpAny (model prog w) A (Builtin.«type.__call__» ⟨.ref C :: rest, []⟩) Q E ⟨h, g, d, t, os⟩ := by
  repeat (first | with_reducible refine wpAny_loadPart_at hC ?_ | with_reducible refine wpAny_madeBy_exc hC ?_ | wp_step)
  refine codeAny_call_builtin_code (Code.quiet_builtin _ F.mkr.quiet) (chk_new F hC (make_at F hC hr ?_))
  show wpAny _ _ _ _ _ _
  have k : ∀ b o, h.get? b = some o → ((h.push (PySem.W.kdv_tup rest)).push (PySem.HandSPX.excO C h.objs.size)).get? b = some o := fun b o e => Heap.get?_push_of_some _ (Heap.get?_push_of_some _ e)
  have hC1 := k _ _ hC
  have hg1 : ((h.push (PySem.W.kdv_tup rest)).push (PySem.HandSPX.excO C h.objs.size)).get? (h.objs.size + 1) = some (PySem.HandSPX.excO C h.objs.size) := by heap_get
  have hcC : (Value.ref C :: tl).contains (.ref C) = true := by simp
  have i1 := hi.keeps k
  have b1 := (hb (.ref (h.objs.size + 1))).keeps k
  unfold isInstance
  repeat (first | with_reducible refine wpAny_loadPart_at hg1 ?_ | (with_reducible refine wpAny_isSubtype_exc hC1 ?_; rw [hcC]) | wp_step)
  show wpAny _ _ (typeLookup (.ref C) _) _ _ _
  refine i1.at (wpAny_holding (wpAny_bind (b1.at ?_)))
  refine wpAny_bind (wpAny_call (codeAny_mono hq fun r s' z => ?_))
  rcases r with e | (v | _ | _ | _) <;> first | exact z | exact z.elim | skip
  obtain ⟨rfl, z⟩ := z
  first
    | exact wpAny_pure (wpAny_pure z)
    | (wp_walk; exact z)
theorem call_at (F : BX tl nB newId i0 b0 iB initId) {rest : List Value} {fI : Addr} (hC : h.get? C = some (excClassObj nm q C N bs tl hdct sn sub ab col dd k0 k1 k2 k3 k5 newId)) (hi : PySem.W.Looks (model prog w) h (typeLookup (.ref C) "__init__") (some (.ref fI)))
    (hb : ∀ self, PySem.W.Looks (model prog w) h (bindSpecial (.ref fI) self) (.ref fI, [self])) (hr : rest.length ≤ sizeLine)
    (hq : codeAny (model prog w) (A.under (.builtin "type.__call__" ⟨.ref C :: rest, []⟩)) (.call (.ref fI) ⟨.ref (h.objs.size + 1) :: rest, []⟩) (PySem.W.InitBack (h.objs.size + 1) R) ⟨(h.push (PySem.W.kdv_tup rest)).push (PySem.HandSPX.excO C h.objs.size), g, d, t, os⟩) :
    codeAny (model prog w) A (.call (.ref C) ⟨rest, []⟩) R ⟨h, g, d, t, os⟩ := by
  have f1 := tc_lookup
  have f2 := tc_bind (.ref C)
  have hTy : (⟨h, g, d, t, os⟩ : Shared).TypeIs (.ref C) "type" := ⟨_, hC, rfl⟩
  refine codeAny_of_tree ?_
  show wpAny _ _ (callAny (.ref C) _) _ _ _
  repeat (any_goals (first | assumption | with_reducible refine wpAny_loadPart_at hC ?_ | wp_step))
  refine ⟨rfl, codeAny_call_builtin_at (Code.quiet_builtin _ (by decide +kernel)) entry_typeCall (wpAny_check_type_call_sub hC (tcall_at F hC hi hb hr (codeAny_mono hq fun r s' z => ?_)))⟩
  rcases r with e | (v | _ | _ | _) <;> exact z
/-- the base's __init__ by the bound method that super() gives -/
theorem init_mw (F : BX tl nB newId i0 b0 iB initId) {u e t0 : Addr} {rest : List Value} {Q : Value → Shared → Prop} (hC : h.get? C = some (excClassObj nm q C N bs tl hdct sn sub ab col dd k0 k1 k2 k3 k5 newId)) (he : h.get? e = some (PySem.HandSPX.excO C t0))
    (hu : h.get? u = some (PySem.W.kxs_mw initId e)) (hr : rest.length ≤ sizeLine) (hq : ∀ h' t1, (∀ b o, b ≠ e → h.get? b = some o → h'.get? b = some o) → h'.get? e = some (PySem.HandSPX.excO C t1) → Q .none ⟨h', g, d, t, os⟩) : wpAny (model prog w) A (call (.ref u) rest) Q E ⟨h, g, d, t, os⟩ := by
  refine wpAny_call (codeAny_of_tree ?_)
  show wpAny _ A.in1 (callAny (.ref u) ⟨rest, []⟩) _ _ _
  simp only [callAny]
  refine wpAny_bind (wpAny_load hu ?_)
  simp only [PySem.W.kxs_mw, show (Value.type "method-wrapper" == Value.type "method" || Value.type "method-wrapper" == Value.type "builtin_function_or_method" || Value.type "method-wrapper" == Value.type "method-wrapper") = true by decide, if_true]
  refine PySem.W.KFB.if_so (by decide) (wpAny_bind (bnd_init F hC he rfl ?_))
  refine wpAny_bind (wpAny_pure (wpAny_pure ⟨Code.quiet_builtin _ F.iStart, codeAny_builtin F.iEntry ?_⟩))
  rw [Around.under_plainId F.iPlain _]
  wp_walk
  refine hq _ h.objs.size (fun b o hb ho => ?_) ?_
  · rw [Heap.get?_update_other _ _ (Ne.symm hb)]
    exact Heap.get?_push_of_some _ ho
  · rw [Heap.get?_update_self _ (Heap.get?_push_of_some _ he) rfl]
    rfl
end
end XB

set_option Elab.async false
set_option linter.all false
set_option maxRecDepth 100000
set_option maxHeartbeats 4000000
/-! own exceptions straight over a built-in class: super().__init__(text), one field -/
namespace XB
open PySem PySem.Spec PyProof.Rows L2
structure OxB (tl : List Value) (newId : String) (K : PySem.W.Frag) (C : Addr) : Prop where
  cls : ∃ nm q N bs sn sub ab col dd k0 k1 k2 k3 k5, K.lookup C = some (excClassObj nm q C N bs tl true sn sub ab col dd k0 k1 k2 k3 k5 newId)
  sa : PySem.W.findIn K (.ref C) "__setattr__" = some (some (.builtin "object.__setattr__"))
  exC : PySem.W.subIn K (.ref C) (.type "BaseException") = some true
  tyC : PySem.W.typeIn K (.ref C) = some (.type "type")
  kC : PySem.W.keepIn K (.ref C) = true
section
open Builtin Builtin.ObjectAttr
variable {prog : Program} {w : World} {A : Around} {R : Result → Shared → Prop} {hp : Heap} {g : Array GenState} {d : Drawn} {t : Nat} {os : OsState} {tl b0 : List Value} {nB newId i0 iB initId : String}
theorem osa_at (F : BX tl nB newId i0 b0 iB initId) {K : PySem.W.Frag} {name : Str} {tk : Tok} {v : Value} {x C : Addr} {fv : Array Value} {cd : ClassData} (X : K.In hp) (hx : hp.get? x = some { cls := .ref C, data := .fields fv }) (hcd : PySem.W.clsIn K C = some cd) (hm : cd.mro = .ref C :: tl)
    (hh : cd.hasDict = true) (ha : PySem.W.findIn K (.ref C) name = some none) (hq : ∀ h' tk' dx, (∀ b o, b ≠ x → hp.get? b = some o → h'.get? b = some o) → hp.objs.size ≤ dx → dx ≠ x → h'.get? x = some { cls := .ref C, dict := some dx, data := .fields fv } → h'.Ns1 dx (fun y => if y = name then some v else none) → R (.ok (.ret .none)) ⟨h', g, d, tk', os⟩) :
    codeAny (model prog w) A (.call (.builtin "object.__setattr__") ⟨[.ref x, .str name tk, v], []⟩) R ⟨hp, g, d, t, os⟩ := by
  have I : PySem.W.InstAt hp x { cls := .ref C, data := .fields fv } C none := ⟨hx, rfl, rfl, trivial⟩
  have SF := PySem.F.store_object
  have ob : cd.mro.contains (.type "object") = true := by
    rw [hm, List.contains_cons, F.obj, Bool.or_true]
  have xs : x ≠ hp.objs.size := Nat.ne_of_lt (Heap.lt_size hx)
  have ne : cd.mro.isEmpty = false := by rw [hm]; rfl
  have sub : PySem.W.Looks (model prog w) hp (isInstance (.ref x) (.type "object")) true := I.type.andThen (PySem.W.looks_mroIn X (by unfold PySem.W.mroIn; rw [hcd, Option.bind_some, if_neg (by rw [ne]; decide), ob]))
  refine codeAny_call_builtin SF.slot.plain SF.entry (@PySem.W.check_slot (model prog w) _ _ ⟨hp, g, d, t, os⟩ "object.__setattr__" "object" "__setattr__" (.ref x) [.str name tk, v] [] _ SF.kind SF.split sub (SF.args (.ref x) (.str name tk) v) ?_)
  have m1 : PySem.W.Looks (model prog w) hp (mroOf (.ref C)) cd.mro := (PySem.W.looks_clsIn X hcd).andThen .now
  have m2 : PySem.W.Looks (model prog w) hp (storeTaker? none) none := .now
  have m3 : PySem.W.Looks (model prog w) hp (classData C) cd := PySem.W.looks_clsIn X hcd
  rw [PySem.W.osa_eq, refuse_eq]
  refine wpAny_bind (wpAny_bind (I.type.at (wpAny_bind (m1.at ?_))))
  rw [hm, refuseLoop_ref, F.pass]
  refine wpAny_pure (wpAny_bind (I.type.at (wpAny_bind ((PySem.W.looks_findIn X ha).at (wpAny_bind (m2.at ?_))))))
  show wpAny _ _ (storeInOwnDict (.ref x) (.ref C) (.str name tk) name v false) _ _ _
  obtain ⟨nm, bs, mro, ns, qn, hd, sn, sb, ab, col, del⟩ := cd
  dsimp only at hh
  subst hh
  unfold storeInOwnDict ownDictForStores
  repeat (first | with_reducible refine PySem.HandSPX.store_in_new ?_ ?_ | with_reducible refine wpAny_loadPart_at hx ?_ | with_reducible refine m3.at ?_ | wp_step)
  · exact ⟨_, #[], _, (Heap.get?_update_ne _ _ _ _ xs.symm).trans (Heap.get?_push_at rfl rfl), rfl, fun e he => absurd he (by simp), fun _ => rfl⟩
  · intro h' tk' hn' hs
    have hx1 : (hp.push { cls := .type "dict", data := .dict #[] }).get? x = some { cls := .ref C, data := .fields fv } := Heap.get?_push_of_some _ hx
    refine hq h' tk' hp.objs.size (fun b o hb ho => ?_) (Nat.le_refl _) xs.symm ?_ hn'
    · exact (hs.2 b (Nat.ne_of_lt (Heap.lt_size ho))).trans ((Heap.get?_update_ne _ _ _ _ hb).trans (Heap.get?_push_of_some _ ho))
    · exact (hs.2 x xs).trans (Heap.get?_update_self _ hx1 rfl)
end
section
variable {X : Cx} {pins : List (Addr × Obj)} {σ : L2.St} {H : Hp} {s : Shared} {a C dx : Addr} {f : Str} {y : V} {u : Value} {Q : Unit → Shared → Prop} {E : Value → Shared → Prop} {A : Around} {tl b0 : List Value} {nB newId i0 iB initId : String}
/-- self.f = y, the first field -/
theorem ost_at (F : BX tl nB newId i0 b0 iB initId) (T : OxB tl newId X.K C) (I : Inv X pins σ H s) (e : H a = some (exo a C none)) (hno : PySem.W.findIn X.K (.ref C) f = some none) (ry : RelV y u)
    (h : ∀ dx s', H dx = none → dx ≠ a → Inv X pins σ (upd (upd H dx (exd dx [(f, y)])) a (exo a C (some dx))) s' → Q () s') : wpAny (model X.prog X.w) A (setAttr (.ref a) f u) Q E s := by
  obtain ⟨nm, q, N, bs, sn, sub, ab, col, dd, k0, k1, k2, k3, k5, hC⟩ := T.cls
  have hcl : PySem.W.clsIn X.K C = some { name := nm, bases := bs, mro := .ref C :: tl, ns := N, qualname := q, hasDict := true, slotNames := sn, subclasses := sub, abstract := ab, collection := col, hasDel := false } := by
    unfold PySem.W.clsIn
    rw [hC]
  obtain ⟨t1, ho⟩ := exo_at I.hok e
  obtain ⟨hp, g, d, t, os⟩ := s
  refine PySem.W.set_plain I.kIn (ox := { cls := .ref C, dict := none, data := .fields #[.ref t1, .none, .none, .none, .bool false, .none] }) (od := none) ⟨ho, rfl, rfl, trivial⟩ T.sa ?_
  refine osa_at F I.kIn ho hcl rfl rfl hno (fun h' tk' dx k dn dne hx hn => ?_)
  have z0 : H dx = none := I.hok.fresh dn
  have nd : ∀ {b : Addr} {o : Obj}, hp.get? b = some o → b ≠ dx := fun {b o} q => Nat.ne_of_lt (Nat.lt_of_lt_of_le (Heap.lt_size q) dn)
  have na : ∀ {b : Addr}, H b = none → b ≠ a := fun {b} n z => by
    rw [z, e] at n
    cases n
  have U1 : Un X.fs [] H (upd (upd H dx (exd dx [(f, y)])) a (exo a C (some dx))) hp h' := {
    keep := fun b o q n _ _ => k b o (na n) q
    slot := fun b o q n _ _ => ⟨o.slots, k b o (na n) q⟩
    free := fun b o q n _ => by
      rw [upd_ne (na n), upd_ne (nd q)]
      exact n
    there := fun b o q _ => by
      by_cases hb : b = a
      · exact ⟨_, by rw [hb]; exact hx⟩
      · exact ⟨o, k b o hb q⟩
    tups := fun b xs q => by
      rw [upd_ne (at_ne e q exo_tup), upd_ne (ne_of_none q z0)]
      exact q
    frzs := fun b o v q => by
      rw [upd_ne (at_ne e q exo_frz), upd_ne (ne_of_none q z0)]
      exact q
    tbls := fun b ps q => ⟨#[], by rw [upd_ne (at_ne e q exo_tbl), upd_ne (ne_of_none q z0), q]; simp⟩ }
  refine h dx _ z0 dne (I.un (t' := tk') U1 fun b o q => ?_)
  by_cases hb : b = a
  · subst hb
    rw [upd_same] at q
    cases q
    exact exo_ok hx
  · rw [upd_ne hb] at q
    by_cases hd : b = dx
    · subst hd
      rw [upd_same] at q
      cases q
      exact exd_ok hn (relO_put (fs := []) ry fun g => True.intro)
    · rw [upd_ne hd] at q
      refine (I.hok b o q).stay (fun c v hc z => k c v ?_ z) (fun c hc => ?_) fun c xs hc => ?_
      · rcases hc with hc | hc
        · rw [hc]
          exact hb
        · exact at_ne e hc exo_own
      · rw [upd_ne (at_ne e hc exo_own), upd_ne (ne_of_none hc z0)]
        exact hc
      · rw [upd_ne (at_ne e hc exo_tup), upd_ne (ne_of_none hc z0)]
        exact hc
end
/-! ### the text -/
structure Ps where
  a0 : Pos
  a1 : Pos
  a2 : Pos
  a3 : Pos
  a4 : Pos
  a5 : Pos
  a6 : Pos
  a7 : Pos
  a8 : Pos
  a9 : Pos
  b1 : Pos
  b2 : Pos
def supArgs (pn : Str) (p : Ps) : Arguments := { posonlyargs := [], args := [{ arg := "self", annotation := none, pos := p.b1 }, { arg := pn, annotation := none, pos := p.b2 }], vararg := none, kwonlyargs := [], kw_defaults := [], kwarg := none, defaults := [] }
def supBody (pn fl msg : Str) (p : Ps) : List Stmt := [.Expr (.Call (.Attribute (.Call (.Name "super" p.a0) [] [] p.a1) "__init__" p.a2) [.Constant (.str msg) 0 p.a3] [] p.a4) p.a5, .Assign [.Attribute (.Name "self" p.a6) fl p.a7] (.Name pn p.a8) p.a9]
def supScope (pn : Str) : Scope := { kind := .function, names := [(Str.ofString "self", .local), (pn, .local), (Str.ofString "__class__", .free), (Str.ofString "super", .globalImplicit)], isGenerator := false, isCoroutine := false, more := [] }
/-- what the written part says of such a class at D and of its __init__ at f -/
structure SupK (tl : List Value) (newId iB initId : String) (P : Program) (K : PySem.W.Frag) (mg : Str → Option Value) (D f : Addr) (pn fl : Str) (fd : FuncData) : Prop where
  fn : ∃ (oc : Value) (od : Option Addr) (osl : Array (Option Value)) (q msg : Str) (p : Ps) (kV doc pm ct : Value) (an : Option Addr) (cc cda : Addr),
    fd = PySem.W.fnX "__init__" q (supArgs pn p) (supBody pn fl msg p) (supScope pn) [("__class__", cc)] .none kV doc pm an (.ref cda) ct ∧ K.lookup f = some ⟨oc, od, .func fd, osl⟩ ∧ PySem.W.codeIn K (.ref cda) q = true ∧
    (∃ cl cld csl, K.lookup cc = some ⟨cl, cld, .cell (some (.ref D)), csl⟩) ∧ (∃ kl kd vs ksl file tf, K.lookup cda = some ⟨kl, kd, .fields vs, ksl⟩ ∧ vs[2]? = some (.str file tf) ∧ ((P.main.file : Str) == file) = true) ∧ (p.a2.endLine == p.a4.line) = true
  pne : (pn == ("super" : Str)) = false ∧ (pn == ("__class__" : Str)) = false ∧ (pn == ("self" : Str)) = false ∧ (pn == ("__debug__" : Str)) = false
  cls : (PySem.W.clsIn K D).isSome = true
  self : PySem.W.mroIn K D (.ref D) = some true
  top : (P.main.scope.names.lookup ("super" : Str)).isSome = false
  gS : mg "super" = none
  op : PySem.W.nsIn K cStatics "thirdparty.any" = some none
  sup : PySem.W.ks_superIn K D D "__init__" = some (some (.builtin initId))
  sub : PySem.W.subIn K (.ref D) (.type iB) = some true
  ox : OxB tl newId K D
  noF : PySem.W.findIn K (.ref D) fl = some none
/-- the promise: the exception at a, still bare, gets its dict with the one field -/
def spSup (D : Addr) (fl : Str) : Sp := fun vs H Q _ => ∃ (a : Addr) (v : V), vs = [.ref a, v] ∧ H a = some (exo a D none) ∧ ∀ dx, H dx = none → dx ≠ a → Q .non (upd (upd H dx (exd dx [(fl, v)])) a (exo a D (some dx)))
def cxS (P : Program) (w : World) (K : PySem.W.Frag) (mg : Str → Option Value) (base : Heap) (N : List Str) (env : Env) (A : Around) (outer : List Env) (s : Shared) (H : Hp) : Cx where
  prog := P
  w := w
  K := K
  mg := mg
  base := base
  A := A.deeper env
  N := N
  s_0 := s
  H_0 := H
  env := env
  outer := outer
  stack := env :: outer
  ex := []
  calm := true
  fn := fun _ => false
  pn := []
  xe := fun _ _ => False
section
variable {P : Program} {w : World} {K : PySem.W.Frag} {mg : Str → Option Value} {base : Heap} {D f : Addr} {pn fl : Str} {fd : FuncData} {tl b0 : List Value} {nB newId i0 iB initId : String}
theorem mcall_eq {o : Expr} {name : Str} {apos pos : Pos} {args : List Expr} (env : Env) (hline : (apos.endLine == pos.line) = true)
    (hfew : methodCallForm (args.length + ([] : List Keyword).length) (backTo pos (starEach args env)) (backToKw pos (keywordEach [] env)) = true := by rfl) :
    eval (.Call (.Attribute o name apos) args [] pos) env = (do
      let ov ← attributeBase o name env (eval o env)
      standAt apos.atName
      let (f, first) ← holding [ov] (getMethod ov name (do return (← importBound o env).getD true))
      callWith pos f first (backTo pos (starEach args env)) []) := by
  have hpos : methodCallPos true o env apos pos = pure pos := by unfold methodCallPos; simp [hline]
  rw [arm_eval_Call]
  unfold methodCall
  rw [hfew]
  simp only [hpos, pure_bind, calleeOf, if_true]
  rfl
theorem sup_ok (F : BX tl nB newId i0 b0 iB initId) (T : SupK tl newId iB initId P K mg D f pn fl fd) (CX : CXT) (k : Nat) : FnOk P w K mg base CX k f fd ["self", pn] (spSup D fl) := by
  obtain ⟨oc, od, osl, q, msg, p, kV, doc, pm, ct, an, cc, cda, rfl, lk, hcd, ⟨cl, cld, csl, hcell⟩, ⟨kl, kd, vs0, ksl, file, tf, hcode, hvs, hfile⟩, hline⟩ := T.fn
  obtain ⟨n1, n2, n3, n4⟩ := T.pne
  have m3 : pn ≠ ("self" : Str) := by simpa using n3
  refine ⟨fun vs H Q E h => by obtain ⟨a, v, rfl, _⟩ := h; rfl, fun A outer s H args us vs Q E hr e0 hb r hsp => ?_⟩
  obtain ⟨a, v, rfl, ha, hq⟩ := hsp
  obtain ⟨u1, u, rfl, r1, r2⟩ := vals2 r
  cases (show u1 = Value.ref a from r1)
  have KX : K.In s.heap := e0.mod.kin.keeps fun b o e => (e0.bs b o e).1
  have lim : s.heap.NoLimit := e0.mod.nolimit.keeps fun b o e => (e0.bs b o e).1
  have l1 : (supScope pn).names.lookup ("self" : Str) = some .local := rfl
  have l2 : (supScope pn).names.lookup pn = some .local := by
    show (match pn == ("self" : Str) with | true => some NameKind.local | false => (match pn == pn with | true => some NameKind.local | false => _)) = _
    rw [n3, beq_self_eq_true]
  have l3 : (supScope pn).names.lookup ("__class__" : Str) = some .free := by
    show (match ("__class__" : Str) == ("self" : Str) with | true => some NameKind.local | false => (match ("__class__" : Str) == pn with | true => some NameKind.local | false => some NameKind.free)) = _
    have : (("__class__" : Str) == pn) = false := by
      rw [beq_eq_false_iff_ne] at n2 ⊢
      exact fun z => n2 z.symm
    rw [this]
    rfl
  have l4 : (supScope pn).names.lookup ("super" : Str) = some .globalImplicit := by
    show (match ("super" : Str) == ("self" : Str) with | true => some NameKind.local | false => (match ("super" : Str) == pn with | true => some NameKind.local | false => some NameKind.globalImplicit)) = _
    have : (("super" : Str) == pn) = false := by
      rw [beq_eq_false_iff_ne] at n1 ⊢
      exact fun z => n1 z.symm
    rw [this]
    rfl
  have lf : ∀ y, (supScope pn).names.lookup y = some .free → y = ("__class__" : Str) := fun y hy => by
    have hy' : (match y == ("self" : Str) with | true => some NameKind.local | false => (match y == pn with | true => some NameKind.local | false => (match y == ("__class__" : Str) with | true => some NameKind.free | false => (match y == ("super" : Str) with | true => some NameKind.globalImplicit | false => none)))) = some NameKind.free := hy
    by_cases e : (y == ("__class__" : Str)) = true
    · exact by simpa using e
    · split at hy'
      · cases hy'
      · split at hy'
        · cases hy'
        · split at hy'
          · rename_i z
            exact by simpa using z
          · split at hy' <;> cases hy'
  have lc : ∀ y, (supScope pn).names.lookup y ≠ some .cell := fun y hy => by
    have hy' : (match y == ("self" : Str) with | true => some NameKind.local | false => (match y == pn with | true => some NameKind.local | false => (match y == ("__class__" : Str) with | true => some NameKind.free | false => (match y == ("super" : Str) with | true => some NameKind.globalImplicit | false => none)))) = some NameKind.cell := hy
    split at hy'
    · cases hy'
    · split at hy'
      · cases hy'
      · split at hy'
        · cases hy'
        · split at hy' <;> cases hy'
  refine PySem.ks_codeAny_call_defAt (fd := PySem.W.fnX "__init__" q (supArgs pn p) (supBody pn fl msg p) (supScope pn) [("__class__", cc)] .none kV doc pm an (.ref cda) ct) (body := supBody pn fl msg p) (binds := [("self", .ref a), (pn, u)])
    hr.depth (KX _ _ lk) rfl lim (PySem.W.codeRec_of KX hcd) rfl hb ?_ ?_ (fun h1 hns k1 => ?_)
  · intro x hx
    rcases List.mem_cons.mp hx with e | hx
    · rw [e]; intro z; cases z
    rcases List.mem_cons.mp hx with e | hx
    · rw [e]; intro z; cases z
    rcases List.mem_cons.mp hx with e | hx
    · rw [e]; intro z; cases z
    rcases List.mem_cons.mp hx with e | hx
    · rw [e]; intro z; cases z
    · cases hx
  · intro x hx
    rcases List.mem_cons.mp hx with e | hx
    · rw [e]; exact l1
    · rw [List.mem_singleton.mp hx]; exact l2
  · have hK1 : K.In h1 := KX.keeps k1
    have hdn : A.handled = none := hr.hd
    generalize he : callEnv (PySem.W.fnX "__init__" q (supArgs pn p) (supBody pn fl msg p) (supScope pn) [("__class__", cc)] .none kV doc pm an (.ref cda) ct) s.heap.objs.size f = env
    have e1 : env = PySem.W.ksEnv q (supScope pn) s.heap.objs.size f (.ref cda) cc := he.symm
    subst e1
    clear he
    have Ok0 : (cxS P w K mg base ["self", pn] (PySem.W.ksEnv q (supScope pn) s.heap.objs.size f (.ref cda) cc) A outer s H).Ok :=
      { mod := e0.mod
        kind := rfl
        glob := rfl
        blt := rfl
        above := Nat.le_refl _
        inj := fun x y c h1 h2 => by
          have g : ∀ z, ([(("__class__" : Str), cc)] : List (Str × Addr)).lookup z = some c → z = ("__class__" : Str) := fun z hz => by
            by_cases e : (z == ("__class__" : Str)) = true
            · exact by simpa using e
            · have e' : (z == ("__class__" : Str)) = false := by simpa using e
              simp [List.lookup, e'] at hz
          exact (g x h1).trans (g y h2).symm
        has := fun x hx => by
          rcases hx with hx | hx
          · exact absurd hx (lc x)
          · exact ⟨cc, by rw [lf x hx]; rfl⟩
        cab := fun x c h => by cases h
        hd := fun _ => hdn
        frames := Around.frames_deeper e0.frames
        stk := .inr ⟨rfl, rfl⟩
        exf := fun b z => absurd (show b ∈ ([] : List Addr) from z) (by simp)
        bs := e0.bs
        bsz := e0.bsz
        noex := fun b _ _ z => absurd (show b ∈ ([] : List Addr) from z) (by simp)
        exfs := fun b z => absurd (show b ∈ ([] : List Addr) from z) (by simp)
        funs := e0.funs
        frf := e0.frf }
    have ns1 : ∀ y v, (([("self", Value.ref a), (pn, u)] : List (Str × Value)).reverse.lookup y) = some v → True := fun _ _ _ => trivial
    have vself : (([("self", Value.ref a), (pn, u)] : List (Str × Value)).reverse.lookup ("self" : Str)) = some (Value.ref a) := by
      show (match ("self" : Str) == pn with | true => some u | false => some (Value.ref a)) = _
      have : (("self" : Str) == pn) = false := by
        rw [beq_eq_false_iff_ne]
        exact fun z => m3 z.symm
      rw [this]
    have vpn : (([("self", Value.ref a), (pn, u)] : List (Str × Value)).reverse.lookup pn) = some u := by
      show (match pn == pn with | true => some u | false => _) = _
      rw [beq_self_eq_true]
    obtain ⟨cI, hcI⟩ : ∃ o, s.heap.get? cc = some o := ⟨_, KX _ _ hcell⟩
    have bcc : ∃ o, base.get? cc = some o := ⟨_, e0.mod.kin _ _ hcell⟩
    have I0 : Inv (cxS P w K mg base ["self", pn] (PySem.W.ksEnv q (supScope pn) s.heap.objs.size f (.ref cda) cc) A outer s H) [] [some (.ref a), some v] H { s with heap := h1, toks := s.toks + 2 } := by
      have gcl : ∀ z c, ([(("__class__" : Str), cc)] : List (Str × Addr)).lookup z = some c → c = cc := fun z c hz => by
        by_cases e : (z == ("__class__" : Str)) = true
        · simp [List.lookup, e] at hz
          exact hz.symm
        · have e' : (z == ("__class__" : Str)) = false := by simpa using e
          simp [List.lookup, e'] at hz
      refine ⟨Ok0, rfl, e0.bare, Un.kept k1, ⟨_, hns, fun i x y h1' h2 h3 => ?_⟩, fun x c h => ?_, e0.hok.fresh (Nat.le_refl _), fun x c h => ?_, fun p hp => absurd (show p ∈ ([] : List (Addr × Obj)) from hp) (by simp), e0.hok.kept k1, rfl⟩
      · match i, h1', h2 with
        | 0, h1', h2 =>
          cases h1'
          cases h2
          exact ⟨Value.ref a, rfl, .inl ⟨l1, vself⟩⟩
        | 1, h1', h2 =>
          cases h1'
          cases h2
          exact ⟨u, r2, .inl ⟨l2, vpn⟩⟩
        | n + 2, h1', h2 => cases h1'
      · cases gcl x c h
        exact ⟨_, ⟨_, hK1 _ _ hcell, rfl⟩⟩
      · cases gcl x c h
        obtain ⟨o, ho⟩ := bcc
        exact (e0.bs _ _ ho).2
    obtain ⟨mb, hmb, hmb2⟩ := e0.mod.blt
    have kb : ∀ b o, base.get? b = some o → h1.get? b = some o := fun b o e => k1 b o (e0.bs b o e).1
    obtain ⟨cdD, hcD⟩ := Option.isSome_iff_exists.mp T.cls
    obtain ⟨oD, hD1, hD2⟩ : ∃ oD, h1.get? D = some oD ∧ oD.data = .cls cdD := by
      have hD := hcD
      unfold PySem.W.clsIn at hD
      split at hD
      · rename_i c d cd' sl ho
        cases hD
        exact ⟨_, hK1 _ _ ho, rfl⟩
      · cases hD
    obtain ⟨t1, hoa⟩ := exo_at I0.hok ha
    obtain ⟨nm, qc, Nc, bs, sn, sub, ab, col, dd, k0, k1', k2, k3, k5, hCo⟩ := T.ox.cls
    have hcl : PySem.W.clsIn K D = some { name := nm, bases := bs, mro := .ref D :: tl, ns := Nc, qualname := qc, hasDict := true, slotNames := sn, subclasses := sub, abstract := ab, collection := col, hasDel := false } := by unfold PySem.W.clsIn; rw [hCo] <;> rfl
    have haD : a ≠ D := fun z => by
      have := (e0.bs D _ (e0.mod.kin _ _ hCo)).2
      rw [← z, ha] at this
      cases this
    refine PySem.ks_wpAt_execs_cons (PySem.ks_wpAt_Expr_any (PySem.ks_wpAt_MethodCall ?_ (mcall_eq _ hline)))
    refine PySem.ks_wpAt_super_base (env := PySem.W.ksEnv q (supScope pn) s.heap.objs.size f (.ref cda) cc) l4 l3 (by decide) rfl (hK1 _ _ lk) rfl rfl rfl (hK1 _ _ hcode) rfl hvs hfile T.top ?_
    refine PySem.W.ks_loadName_global rfl l4 (Calls.loadGlobal_builtin (env := PySem.W.ksEnv q (supScope pn) s.heap.objs.size f (.ref cda) cc) (e0.mod.glob.keeps kb) T.gS (hmb.keeps kb) ((hmb2 _ (by decide)).trans (by decide +kernel)) ⟨rfl, ?_⟩)
    refine wpAny_loadName_free rfl l3 rfl ⟨_, hK1 _ _ hcell, rfl⟩ ?_
    refine wpAny_loadName_local rfl l1 hns vself ?_
    refine PySem.ks_wpAny_isType_cls hD1 hD2 ⟨rfl, ?_⟩
    refine PySem.ks_wpAny_call_super hD1 hD2 hoa rfl (fun c e => by cases e) (PySem.W.looks_mroIn hK1 T.self) (fun h2 e2 k2' => ?_)
    have hK2 : K.In h2 := hK1.keeps k2'
    have hl2 : ((PySem.W.clsIn K D).bind fun cd => PySem.W.alongIn K "__init__" ((cd.mro.dropWhile (· != .ref D)).drop 1)) = some (some (.builtin initId)) := T.sup
    rw [hcl, Option.bind_some] at hl2
    refine PySem.W.kxs_getMethod F.kx e2 (PySem.W.looks_opaque hK2 T.op) (l₀ := .ref D :: tl) ?_ rfl hK2 hl2 ?_ haD (by decide) ?_
    · exact fun A Q E s k q => wpAny_bind ((PySem.W.looks_clsIn hK2 hcl) A _ E s k (wpAny_pure q))
    · have It : PySem.W.InstAt h2 a _ D none := ⟨k2' _ _ hoa, rfl, rfl, trivial⟩
      exact It.type.andThen (PySem.W.looks_subIn hK2 T.sub)
    refine PySem.W.kxs_callWith (i := initId) (x := a) rfl ?_
    refine Calls.evalArgs_plain (Calls.spliced_cons (Calls.Constant_str (k := 0) (pos := p.a3) (Calls.spliced_nil ⟨?_, ?_⟩)))
    · exact Heap.get?_push_at rfl rfl
    have k3' : ∀ b o, h1.get? b = some o → (h2.push (PySem.W.kxs_mw initId a)).get? b = some o := fun b o e => Heap.get?_push_of_some _ (k2' b o e)
    refine init_mw F (k3' _ _ (hK1 _ _ hCo)) (k3' _ _ hoa) (Heap.get?_push_at rfl rfl) (by show 1 ≤ sizeLine; rw [sizeLine_eq]; omega) (fun h4 t4 k4 hx4 => ?_)
    have Ia := I0.un (h' := h2.push (PySem.W.kxs_mw initId a)) (t' := s.toks + 2) (Un.kept k3') (I0.hok.kept k3')
    have Ib := Ia.write (t' := s.toks + 2) (x := a) (e := a) (o := exo a D none) (by rw [ha]; exact True.intro) (.inl rfl) k4 ⟨_, hx4⟩ (exo_ok hx4)
    have eu : upd H a (exo a D none) = H := by
      funext b
      by_cases hb : b = a
      · rw [hb, upd_same, ha]
      · rw [upd_ne hb]
    rw [eu] at Ib
    show PySem.wpAt _ _ _ (execs _ _) _ _ _
    refine PySem.ks_wpAt_execs_cons (PySem.ks_wpAt_Assign_Attr ?_)
    refine PySem.wpAt_of_wpAny ?_
    obtain ⟨m4, hn4, lk4⟩ := Ib.loc
    obtain ⟨u4, ru4, lu4⟩ := lk4 1 pn v rfl rfl (.inl l2)
    obtain ⟨a4, ra4, la4⟩ := lk4 0 "self" (.ref a) rfl rfl (.inl l1)
    cases (show a4 = Value.ref a from ra4)
    have mu4 : m4 pn = some u4 := by
      rcases lu4 with ⟨_, z⟩ | ⟨z | z, _⟩
      · exact z
      · exact absurd z (lc _)
      · exact absurd (l2.symm.trans z) (by simp)
    have ma4 : m4 "self" = some (.ref a) := by
      rcases la4 with ⟨_, z⟩ | ⟨z | z, _⟩
      · exact z
      · exact absurd z (lc _)
      · exact absurd (l1.symm.trans z) (by simp)
    refine wpAny_Name (wpAny_loadName_local rfl l2 hn4 mu4 ?_) n4
    refine wpAny_Name (wpAny_loadName_local rfl l1 hn4 ma4 ?_) (by decide)
    refine ost_at F (X := cxS P w K mg base ["self", pn] (PySem.W.ksEnv q (supScope pn) s.heap.objs.size f (.ref cda) cc) A outer s H) (A := A.deeper (PySem.W.ksEnv q (supScope pn) s.heap.objs.size f (.ref cda) cc)) T.ox (Ib.tok _) ha T.noF ru4 (fun dx s' hn ne J => ?_)
    show PySem.wpAt _ _ _ (execs [] _) _ _ _
    rw [execs_nil]
    exact PySem.wpAt_of_wpAny (wpAny_pure ⟨.non, _, J.os, J.bare, J.base, J.hok, rfl, hq dx hn ne⟩)
end
section
variable {X : Cx} {e : Expr} {es : List Expr} {ta : TA} {p pos : Pos} {tl b0 : List Value} {nB newId i0 iB initId : String}
/-- C(e): C's own __init__ keeps sp -/
theorem pmk_at {CX : CXT} {x : Str} {C fI : Addr} {k : Nat} {fd : FuncData} {ps : List Str} {sp : Sp} (F : BX tl nB newId i0 b0 iB initId) (T : OxB tl newId X.K C) (iC : PySem.W.findIn X.K (.ref C) "__init__" = some (some (.ref fI))) (tI : PySem.W.typeIn X.K (.ref fI) = some (.type "function"))
    (F1 : FnOk X.prog X.w X.K X.mg X.base CX k fI fd ps sp) (hr : Room (k + 1) X.A) (hb : Binds X.K fd ps []) (hx : Passes CX X (fun _ _ _ => False)) (hg : Gl X x) (hm : X.mg x = some (.ref C)) (ha : PA X (e :: es) ta)
    (hdb : (x == ("__debug__" : Str)) = false := by decide) (he : starEach (e :: es) X.env = (false, eval e X.env) :: starEach es X.env := by rfl) (hpl : (backTo pos (starEach es X.env)).any (·.1) = false := by rfl) : PMk X (.Call (.Name x p) (e :: es) [] pos) (tMkO C sp [] ta) := by
  intro pins s σ H Q I h
  obtain ⟨nm, q, N, bs, sn, sub, ab, col, dd, k0, k1, k2, k3, k5, hC⟩ := T.cls
  refine wpAny_Call_Name_kw (ld_glob I hg hm ?_ hdb)
  refine PySem.W.callWith_K (h₀ := X.base) I.ok.mod.kin T.kC (thn (ha.run pos pins s σ H _ I h) fun us s1 ⟨vs, H1, I1, r1, hz, q1⟩ => ⟨I1.kIn, ?_⟩) he hpl
  show wpAny _ _ (call (.ref C) us) _ _ _
  obtain ⟨hp, g, dr, tk, os⟩ := s1
  have z1 : hp.objs.size ≤ hp.objs.size + 1 := Nat.le_succ _
  have z2 : H1 (hp.objs.size + 1) = none := I1.hok.fresh z1
  have hq := q1 (hp.objs.size + 1) z2
  rw [List.append_nil] at hq
  have kk : ∀ b o, hp.get? b = some o → ((hp.push (PySem.W.kdv_tup us)).push (PySem.HandSPX.excO C hp.objs.size)).get? b = some o := fun b o e => Heap.get?_push_of_some _ (Heap.get?_push_of_some _ e)
  have g1 : ((hp.push (PySem.W.kdv_tup us)).push (PySem.HandSPX.excO C hp.objs.size)).get? (hp.objs.size + 1) = some (PySem.HandSPX.excO C hp.objs.size) := by heap_get
  have I2 : Inv X pins σ (upd H1 (hp.objs.size + 1) (exo (hp.objs.size + 1) C none)) ⟨(hp.push (PySem.W.kdv_tup us)).push (PySem.HandSPX.excO C hp.objs.size), g, dr, tk, os⟩ :=
    I1.laid (t' := tk) (a := hp.objs.size + 1) (o := exo (hp.objs.size + 1) C none) (h' := (hp.push (PySem.W.kdv_tup us)).push (PySem.HandSPX.excO C hp.objs.size)) kk z1 (exo_ok g1)
  have r2 : Vals (V.ref (hp.objs.size + 1) :: vs) (Value.ref (hp.objs.size + 1) :: us) := .cons rfl r1
  have hl : (Value.ref (hp.objs.size + 1) :: us).length = ps.length := r2.length.symm.trans (F1.len _ _ _ _ hq)
  have hus : us.length ≤ sizeLine := by
    rw [← Paired.length r1, sizeLine_eq]
    omega
  have bb := hb _ (Value.ref (hp.objs.size + 1) :: us) I2.kIn (by rw [List.append_nil]; exact hl)
  rw [List.append_nil] at bb
  refine wpAny_call (call_at F (I1.kIn _ _ hC) (PySem.W.looks_findIn I1.kIn iC) (fun self => PySem.W.bind_fn I1.kIn self tI) hus
    (codeAny_mono (F1.run _ X.stack _ _ ⟨Value.ref (hp.objs.size + 1) :: us, []⟩ (Value.ref (hp.objs.size + 1) :: us) _ _ (fun _ _ _ => False) (hr.make C us []) (I2.env0.make C us []) bb r2 hq) fun r s' hq' => ?_))
  cases r with
  | error er => exact hx pins σ _ _ er s' I2 hq'
  | ok fl =>
    cases fl with
    | ret u =>
      obtain ⟨v, H2, os2, bare2, un2, hok2, rv, ev, d, fs, ea, ed, hd1, q2⟩ := hq'
      subst ev
      obtain ⟨h2, g2, d2, t2, os'⟩ := s'
      exact ⟨rv, mk_end (raises_own T.exC T.tyC) I1 z1 kk un2 hok2 os2 bare2 ea ed hd1 q2⟩
    | next => exact False.elim hq'
    | brk => exact False.elim hq'
    | cont => exact False.elim hq'
end
end XB

set_option Elab.async false
set_option linter.all false
set_option maxRecDepth 100000
set_option maxHeartbeats 2000000
namespace T83
open PySem PySem.Spec PyProof.Rows L2
/-! ### what stands at the top -/
abbrev cA (K : PySem.W.Frag) (x : Str) : Addr := He.ga K x
abbrev fA (K : PySem.W.Frag) (x : Str) : Addr := He.ma K (cA K x) "__init__"
def bltL : List Str := ["isinstance", "int", "bool", "str", "tuple", "len", "all", "zip", "enumerate", "sorted", "set", "dict", "list", "max", "min", "range", "sum", "abs", "repr", "super"]
/-- the classes that are raised, the classes that are caught -/
def rsdL : List Str := ["InvalidMachine", "InvalidName", "InvalidNumber", "TooMany", "UnknownName", "NothingToUndo"]
def cghL : List Str := ["InvalidMachine", "InvalidPolicy", "InvalidWish", "InvalidLot", "InvalidFraction", "InvalidOperation", "InvalidNumber", "TooMany", "Refused", "InvalidName", "UnknownName", "NothingToUndo"]
structure Fx (K : PySem.W.Frag) (mg : Str → Option Value) : Prop where
  b : ∀ x ∈ bltL, mg x = none
  gcd : mg "gcd" = some (.builtin "math.gcd")
  c_places : ∃ t, mg "MAX_PLACES" = some (.int 16 t)
  c_choices : ∃ t, mg "MAX_CHOICES" = some (.int 4 t)
  c_price : ∃ t, mg "MOST_PRICE" = some (.int (10 ^ 6) t)
  c_part : ∃ t, mg "MOST_PART" = some (.int (10 ^ 6) t)
  c_pair : ∃ t, mg "PAIR_SIZE" = some (.int 2 t)
  c_machines : ∃ t, mg "MOST_MACHINES" = some (.int 12 t)
  c_name : ∃ t, mg "MOST_NAME" = some (.int 8 t)
  c_checks : ∃ t, mg "LETTERS_checks" = some (.str "abcdefghijkl" t)
  c_shelf : ∃ t, mg "LETTERS_shelf" = some (.str "abcdefghijklmnopqrstuvwxyz" t)
/-- an own class without __init__ over an own class over ValueError -/
structure Xp (K : PySem.W.Frag) (x : Str) : Prop where
  xI : PySem.W.excIn K (cA K x) He.veBase "ValueError.__new__" = true
  kI : PySem.W.keepIn K (.ref (cA K x)) = true
  bI : PySem.W.subIn K (.ref (cA K x)) (.type "BaseException") = some true
  tI : PySem.W.typeIn K (.ref (cA K x)) = some (.type "type")
/-- an own class over a built-in one, its __init__ -/
structure Xi (tl : List Value) (newId iB initId : String) (pn fl : Str) (P : Program) (K : PySem.W.Frag) (mg : Str → Option Value) (x : Str) : Prop where
  fd : ∃ fd, XB.SupK tl newId iB initId P K mg (cA K x) (fA K x) pn fl fd ∧ Binds K fd ["self", pn] []
  iI : PySem.W.findIn K (.ref (cA K x)) "__init__" = some (some (.ref (fA K x)))
  tI : PySem.W.typeIn K (.ref (fA K x)) = some (.type "function")
  xf : XfC K (cA K x)
structure Fe (P : Program) (K : PySem.W.Frag) (mg : Str → Option Value) : Prop where
  g : ∀ x ∈ cghL, mg x = some (.ref (cA K x))
  m : ∀ x ∈ rsdL, ∀ y ∈ cghL, PySem.W.exmOne K (.ref (cA K x)) (.ref (cA K y)) = some (decide (x = y))
  mach : Xp K "InvalidMachine"
  name : Xp K "InvalidName"
  num : Xi XB.tlI "IndexError.__new__" "IndexError" "IndexError.__init__" "value" "value" P K mg "InvalidNumber"
  many : Xi XB.tlO "OverflowError.__new__" "OverflowError" "OverflowError.__init__" "number" "number" P K mg "TooMany"
  unk : Xi XB.tlK "LookupError.__new__" "KeyError" "KeyError.__init__" "name" "name" P K mg "UnknownName"
  noth : Xi XB.tlR "RuntimeError.__new__" "RuntimeError" "RuntimeError.__init__" "wanted" "wanted" P K mg "NothingToUndo"
  rxf : XfC K (cA K "Refused")
  rno : PySem.W.findIn K (.ref (cA K "Refused")) "reason" = some none
/-! ### atoms -/
inductive Atm : V → PyData → Prop
  | non : Atm .non .none
  | bl (b : Bool) : Atm (.bl b) (.bool b)
  | int (i : Int) (h : (PyData.int i).showable = true) (l : (PyData.int i).shown.length ≤ 1000) : Atm (.int i) (.int i)
  | str (x : Str) (l : (PyData.str x).shown.length ≤ 1000) : Atm (.str x) (.str x)
theorem Atm.len {v : V} {d : PyData} (h : Atm v d) : d.shown.length ≤ 1000 := by
  cases h with
  | non => decide +kernel
  | bl b => cases b <;> decide +kernel
  | int i h l => exact l
  | str x l => exact l
def rReprA : List V → Hp → VK → Prop := fun xs H Q => ∃ v d, xs = [v] ∧ Atm v d ∧ Q (.str d.shown) H
theorem call_reprA {X : Cx} : CallR X (.builtin "repr") rReprA := by
  intro pins s σ H xs us Q I r h
  obtain ⟨v, d, rfl, hd, q⟩ := h
  obtain ⟨u, rfl, ru⟩ := vals1 r
  cases hd with
  | non =>
    cases (show u = Value.none from ru)
    rw [PyData.shown] at q
    exact PySem.P.repr_of_none ⟨.str "None", H, I.tok _, ⟨_, rfl⟩, q⟩
  | bl b =>
    cases (show u = Value.bool b from ru)
    rw [PyData.shown] at q
    exact PySem.P.repr_of_bool ⟨.str _, H, I.tok _, ⟨_, rfl⟩, q⟩
  | int i h l =>
    obtain ⟨t, rfl⟩ := (show ∃ t, u = Value.int i t from ru)
    rw [PyData.showable] at h
    rw [PyData.shown] at q
    exact PySem.P.repr_of_int (of_decide_eq_true h) ⟨.str _, H, I.tok _, ⟨_, rfl⟩, q⟩
  | str x l =>
    obtain ⟨t, rfl⟩ := (show ∃ t, u = Value.str x t from ru)
    rw [PyData.shown] at l q
    exact PySem.P.repr_of_str ⟨.str _, H, I.tok _, ⟨_, rfl⟩, q⟩ (by rw [sizeLine_eq]; omega)
/-- an exception that a shelf raises, and what the law says of it -/
inductive Exn (K : PySem.W.Frag) (H : Hp) : Value → Option Addr → Str → Prop
  | mach (d : Option Addr) : Exn K H (.ref (cA K "InvalidMachine")) d "machine"
  | name (d : Option Addr) : Exn K H (.ref (cA K "InvalidName")) d "name"
  | num {dd : Addr} {v : V} {p : PyData} (h : H dd = some (.xd [("value", v)])) (a : Atm v p) : Exn K H (.ref (cA K "InvalidNumber")) (some dd) ("number " ++ p.shown)
  | many {dd : Addr} {v : V} {p : PyData} (h : H dd = some (.xd [("number", v)])) (a : Atm v p) : Exn K H (.ref (cA K "TooMany")) (some dd) ("many " ++ p.shown)
  | unk {dd : Addr} {v : V} {p : PyData} (h : H dd = some (.xd [("name", v)])) (a : Atm v p) : Exn K H (.ref (cA K "UnknownName")) (some dd) ("unknown " ++ p.shown)
  | noth {dd : Addr} {v : V} {p : PyData} (h : H dd = some (.xd [("wanted", v)])) (a : Atm v p) : Exn K H (.ref (cA K "NothingToUndo")) (some dd) ("nothing " ++ p.shown)
/-- those that _law_met lets through -/
inductive ExnO (K : PySem.W.Frag) (H : Hp) : Value → Option Addr → Str → Prop
  | name (d : Option Addr) : ExnO K H (.ref (cA K "InvalidName")) d "name"
  | unk {dd : Addr} {v : V} {p : PyData} (h : H dd = some (.xd [("name", v)])) (a : Atm v p) : ExnO K H (.ref (cA K "UnknownName")) (some dd) ("unknown " ++ p.shown)
  | noth {dd : Addr} {v : V} {p : PyData} (h : H dd = some (.xd [("wanted", v)])) (a : Atm v p) : ExnO K H (.ref (cA K "NothingToUndo")) (some dd) ("nothing " ++ p.shown)
def WishO (K : PySem.W.Frag) (Q : VK) : XK := fun cls d H => ∃ z, ExnO K H cls d z ∧ ∀ t, H t = none → Q (.ref t) (upd H t (.tup [.str "raised", .str z]))
/-- what is wished of an exception, of a value: the law's pair -/
def Wish (K : PySem.W.Frag) (Q : VK) : XK := fun cls d H => ∃ z, Exn K H cls d z ∧ ∀ t, H t = none → Q (.ref t) (upd H t (.tup [.str "raised", .str z]))
def Told (Q : VK) : VK := fun v H => 2 ≤ sizeLine ∧ ∀ t, H t = none → Q (.ref t) (upd H t (.tup [.str "told", v]))
end T83

set_option Elab.async false
set_option linter.all false
set_option maxRecDepth 100000
set_option maxHeartbeats 0
namespace T83
open PySem PySem.Spec PyProof.Rows L2
abbrev aS (K : PySem.W.Frag) : Addr := He.ga K "Shelf"
abbrev LAW : PySem.W.OpenLaw := PySem.Challenge.rw_bestchance_k83_whole_shelves_beside_an_o
abbrev PGM : Program := LAW.prog
/-! ### what is looked at -/
def mkD (x : Str) (i : Nat) : He5.DefA := { at_ := fun K => He.ga K x, name := x, qual := x, params := defArgs (top i), body := defBody (top i), scope := defScope (top i) }
def mkM (m : Str) (q : Str) (j : Nat) : He5.DefA := { at_ := fun K => He.ma K (aS K) m, name := m, qual := q, params := defArgs (inClass (top 100) j), body := defBody (inClass (top 100) j), scope := defScope (inClass (top 100) j) }
def aPr (K : PySem.W.Frag) : Addr := He.ma K (aS K) "names"
def aGt (K : PySem.W.Frag) : Addr := match PySem.W.recIn K (aPr K) "property" with
  | some (.ref g :: _) => g
  | _ => 0
def mkP : He5.DefA := { at_ := aGt, name := "names", qual := "Shelf.names", params := defArgs (inClass (top 100) 14), body := defBody (inClass (top 100) 14), scope := defScope (inClass (top 100) 14) }
def defs1 : List He5.DefA := [mkD "is_whole" 19, mkD "is_within" 20, mkD "is_pair" 21, mkD "is_letters" 22, mkD "is_ascending" 23, mkD "are_parts" 38, mkD "is_choice" 39, mkD "fault_in" 40, mkD "is_machine_in" 41, mkD "size_of" 45, mkD "require_machine" 51, mkD "require_place" 52, mkD "require_index" 53, mkD "is_name" 95, mkD "require_amount" 96, mkD "with_choices" 97, mkD "with_part" 98, mkD "require_steps" 101]
def defs2 : List He5.DefA := [mkD "_law_bowl" 103, mkD "_law_scoop" 104, mkD "_law_one_of" 105, mkD "_law_common" 106, mkD "_law_parts" 107, mkD "_law_machine" 108, mkD "_law_is_whole" 109, mkD "_law_put" 110, mkD "_law_met" 111, mkD "_law_priced" 112, mkD "_law_parted" 113, mkD "_law_lessened" 114, mkD "_law_rowed" 115, mkD "_law_heard" 116, mkD "_law_wrong" 117, mkD "_law_changed" 118, mkD "_law_put_or_dropped" 119, mkD "_law_same" 120, mkD "_law_right" 121, mkD "law" 122]
def defs : List He5.DefA := defs1 ++ defs2
def meths : List He5.DefA := [mkM "__init__" "Shelf.__init__" 0, mkM "step" "Shelf.step" 1, mkM "put" "Shelf.put" 2, mkM "drop" "Shelf.drop" 3, mkM "price" "Shelf.price" 4, mkM "part" "Shelf.part" 5, mkM "less" "Shelf.less" 6, mkM "undo" "Shelf.undo" 7, mkM "redo" "Shelf.redo" 8,
  mkM "require_known" "Shelf.require_known" 9, mkM "machine" "Shelf.machine" 10, mkM "twin" "Shelf.twin" 15, mkM "__contains__" "Shelf.__contains__" 16, mkM "__len__" "Shelf.__len__" 17, mkM "__eq__" "Shelf.__eq__" 18, mkM "__str__" "Shelf.__str__" 19, mkP]
def fn : List He5.DefA := defs ++ meths
def mnL : List Str := ["step", "put", "drop", "price", "part", "less", "undo", "redo", "require_known", "machine", "twin", "__contains__", "__len__", "__eq__", "__str__"]
def nd1 : List Str := ["is_whole", "is_within", "is_pair", "is_letters", "is_ascending", "are_parts", "is_choice", "fault_in", "is_machine_in", "size_of", "require_machine", "require_place", "require_index", "is_name", "require_amount", "with_choices", "with_part", "require_steps"]
def nd2 : List Str := ["_law_bowl", "_law_scoop", "_law_one_of", "_law_common", "_law_parts", "_law_machine", "_law_is_whole", "_law_put", "_law_met", "_law_priced", "_law_parted", "_law_lessened", "_law_rowed", "_law_heard", "_law_wrong", "_law_changed", "_law_put_or_dropped", "_law_same", "_law_right", "law"]
def ndL : List Str := nd1 ++ nd2
def fa0 : List He.Fa := [.int "MAX_PLACES" 16, .int "MAX_CHOICES" 4, .int "MOST_PRICE" (10 ^ 6), .int "MOST_PART" (10 ^ 6), .int "PAIR_SIZE" 2, .int "MOST_MACHINES" 12, .int "MOST_NAME" 8, .str "LETTERS_checks" "abcdefghijkl", .str "LETTERS_shelf" "abcdefghijklmnopqrstuvwxyz",
  .glo "Shelf", .cls "Shelf", .mkr "Shelf", .noat "Shelf" "own_machines", .noat "Shelf" "own_past", .noat "Shelf" "own_future", .noat "Shelf" "own_answers", .exc "InvalidMachine", .exc "InvalidName"]
def fa1 : List He.Fa := ndL.map .glo
def fa2 : List He.Fa := bltL.map .free
def fa3 : List He.Fa := cghL.map .glo
def fa4 : List He.Fa := mnL.map (.meth "Shelf")
def fa5 : List He.Fa := rsdL.flatMap fun x => cghL.map fun y => .exm x y (decide (x = y))
def fa : List He.Fa := fa0 ++ (fa1 ++ (fa2 ++ (fa3 ++ (fa4 ++ fa5))))
/-! ### own exceptions over built-in ones -/
structure ExI where
  x : Str
  pn : Str
  i : Nat
  q : Str
  tl : List Value
  nw : String
  iB : String
  ii : String
def exN : ExI := ⟨"InvalidNumber", "value", 11, "InvalidNumber.__init__", XB.tlI, "IndexError.__new__", "IndexError", "IndexError.__init__"⟩
def exM : ExI := ⟨"TooMany", "number", 12, "TooMany.__init__", XB.tlO, "OverflowError.__new__", "OverflowError", "OverflowError.__init__"⟩
def exU : ExI := ⟨"UnknownName", "name", 13, "UnknownName.__init__", XB.tlK, "LookupError.__new__", "KeyError", "KeyError.__init__"⟩
def exR : ExI := ⟨"NothingToUndo", "wanted", 15, "NothingToUndo.__init__", XB.tlR, "RuntimeError.__new__", "RuntimeError", "RuntimeError.__init__"⟩
def exL : List ExI := [exN, exM, exU, exR]
def excB (K : PySem.W.Frag) (C : Addr) (tl : List Value) (nw : String) : Bool := match K.lookup C with
  | some ⟨.type t, _, .cls cd, sl⟩ => t == "type" && (match cd.mro, sl.toList with
    | .ref C' :: bm, [_, _, _, _, some (.builtin n), _] => C' == C && (n == nw && (cd.hasDict && (!cd.hasDel && decide (bm = tl))))
    | _, _ => false)
  | _ => false
theorem excB_ok {K : PySem.W.Frag} {C : Addr} {tl : List Value} {nw : String} (h : excB K C tl nw = true) : ∃ nm q N bs sn sub ab col dd k0 k1 k2 k3 k5, K.lookup C = some (excClassObj nm q C N bs tl true sn sub ab col dd k0 k1 k2 k3 k5 nw) := by
  unfold excB at h
  split at h
  · rename_i t dd cd sl e
    simp only [Bool.and_eq_true] at h
    obtain ⟨h1, h⟩ := h
    obtain ⟨nm, bs, mro, ns, qn, hd, sn, sb, ab, col, del⟩ := cd
    obtain ⟨sl⟩ := sl
    split at h
    · rename_i C' bm k0 k1 k2 k3 n k5 em es
      simp only [Bool.and_eq_true, beq_iff_eq, Bool.not_eq_true', decide_eq_true_eq] at h h1
      obtain ⟨rfl, rfl, rfl, rfl, rfl⟩ := h
      dsimp only at em es
      subst em es h1
      exact ⟨nm, qn, ns, bs, sn, sb, ab, col, dd, k0, k1, k2, k3, k5, e⟩
    · cases h
  · cases h
def celA (K : PySem.W.Frag) (a : Addr) : List Addr := match K.lookup a with
  | some ⟨_, _, .func fd, _⟩ => fd.closure.map (·.2)
  | _ => []
abbrev FnZ : Type := Option (Str × Str × Arguments × FuncBody × Scope × Addr × Value × Addr)
def fnZ (K : PySem.W.Frag) (a : Addr) : FnZ := match K.lookup a with
  | some ⟨_, _, .func fd, _⟩ => some (fd.name, fd.qualname, fd.params, fd.body, fd.scope, fd.globals, fd.defaults, fd.builtins)
  | _ => none
def sPI (e : ExI) : Stmt := inClass (top e.i) 0
def valZ (e : ExI) : FnZ := some ("__init__", e.q, defArgs (sPI e), .stmts (defBody (sPI e)), defScope (sPI e), mainGlobals, .none, builtinsNs)
def closeB (K : PySem.W.Frag) (e : ExI) : Bool := match K.lookup (fA K e.x) with
  | some ⟨_, _, .func fd, _⟩ => (match fd.closure with
    | [(n, c)] => n == ("__class__" : Str) && (match K.lookup c with
      | some ⟨_, _, .cell (some (.ref D)), _⟩ => D == cA K e.x
      | _ => false)
    | _ => false) && ((match fd.code with
    | .ref cda => (match K.lookup cda with
      | some ⟨_, _, .fields vs, _⟩ => (match vs.toList with
        | _ :: _ :: .str file _ :: _ => (PGM.main.file : Str) == file
        | _ => false)
      | _ => false)
    | _ => false) && PySem.W.codeIn K fd.code e.q)
  | _ => false
def exB (K : PySem.W.Frag) (e : ExI) : List Bool := [excB K (cA K e.x) e.tl e.nw, He.eqO (PySem.W.findIn K (.ref (cA K e.x)) "__setattr__") (some (some (.builtin "object.__setattr__"))),
  decide (PySem.W.subIn K (.ref (cA K e.x)) (.type "BaseException") = some true), decide (PySem.W.typeIn K (.ref (cA K e.x)) = some (.type "type")), PySem.W.keepIn K (.ref (cA K e.x)),
  He.eqO (PySem.W.findIn K (.ref (cA K e.x)) "__init__") (some (some (.ref (fA K e.x)))), decide (PySem.W.typeIn K (.ref (fA K e.x)) = some (.type "function")), xfB K (cA K e.x),
  He.eqO (PySem.W.findIn K (.ref (cA K e.x)) e.pn) (some none), decide (PySem.W.subIn K (.ref (cA K e.x)) (.type e.iB) = some true), decide (PySem.W.mroIn K (cA K e.x) (.ref (cA K e.x)) = some true), (PySem.W.clsIn K (cA K e.x)).isSome,
  decide (PySem.W.ks_superIn K (cA K e.x) (cA K e.x) "__init__" = some (some (.builtin e.ii))), closeB K e]
def xB (K : PySem.W.Frag) : List Bool := [PySem.W.nsOkIn K cStatics, He.eqO (PySem.W.nsIn K cStatics "thirdparty.any") (some none), He.eqO (PySem.W.nsIn K mainGlobals "gcd") (some (some (.builtin "math.gcd"))),
  He.eqO (PySem.W.findIn K (.ref (aS K)) "names") (some (some (.ref (aPr K)))), He.eqO (PySem.W.specialIn K (.ref (aPr K)) "__get__") (some (some (.builtin "property.__get__"))), decide (PySem.W.takesIn K (.ref (aPr K)) = some true),
  (match PySem.W.recIn K (aPr K) "property" with | some (.ref _ :: _) => true | _ => false),
  He.eqO (PySem.W.findIn K (.ref (aS K)) "__ne__") (some (some (.builtin "object.__ne__"))), decide (PySem.W.mroIn K (aS K) (.type "object") = some true), decide (PySem.W.subIn K (.type "int") (.ref (aS K)) = some false), decide (PySem.W.kitOne K (.type "int") (.ref (aS K)) = some false),
  He.eqO (PySem.W.findIn K (.ref (aS K)) "__class__") (some (some (.builtin "object.__class__"))), He.eqO (PySem.W.specialIn K (.builtin "object.__class__") "__get__") (some (some (.builtin "getset_descriptor.__get__"))), decide (PySem.W.takesIn K (.builtin "object.__class__") = some true),
  xfB K (cA K "Refused"), He.eqO (PySem.W.findIn K (.ref (cA K "Refused")) "reason") (some none)]
/-! ### the defs with lambdas: their code objects' tables -/
def tf : List He.Defn := [("_law_changed", none), ("_law_put_or_dropped", none), ("_law_right", none), ("law", none)]
def tA (K : PySem.W.Frag) (x : Str) : Addr := (He.cT K (x, none)).2
def apB (K : PySem.W.Frag) : Bool := decide ((tf.map fun p => (He.cT K p).2).Nodup)
def moreB (K : PySem.W.Frag) : Bool := (xB K).all id && ((exL.all fun e => (exB K e).all id) && apB K)
/-! ### the hook -/
abbrev AlZ : Type := He.AlD × Bool × List FnZ
def obsZ (g : Addr → Option Obj) (K : PySem.W.Frag) : AlZ := (He5.obsA fa fn K, moreB K && He.tabsB g tf K, exL.map fun e => fnZ K (fA K e.x))
def vZ : AlZ := (He5.valA fn, true, exL.map valZ)
/-- a list of numbers, made plain -/
def frc {β : Type} : List Nat → (List Nat → β) → β
  | [], k => k []
  | a :: r, k => HandSHeadRun.frNat a fun n => frc r fun r2 => k (n :: r2)
theorem frc_eq {β : Type} : ∀ (l : List Nat) (k : List Nat → β), frc l k = k l
  | [], k => rfl
  | a :: r, k => by
    show HandSHeadRun.frNat a (fun n => frc r fun r2 => k (n :: r2)) = _
    rw [HandSHeadRun.frNat_eq]
    exact frc_eq r _
def n1 (o : Obj) : List Addr := match o.data with
  | .func fd => He.refV fd.code
  | .cls cd => [cd.ns]
  | _ => []
def n2 (o : Obj) : List Addr := match o.data with
  | .dict es _ => es.toList.flatMap fun e => He.refV e.val
  | _ => []
def n3 (o : Obj) : List Addr := match o.data with
  | .func fd => He.refV fd.code ++ fd.closure.map (·.2)
  | .fields vs => vs.toList.flatMap He.refV
  | _ => []
def nx (g : Addr → Option Obj) (n : Obj → List Addr) (as : List Addr) : List Addr := as.flatMap fun a => match g a with
  | some o => n o
  | none => []
def nmA : List Str := ndL ++ (([Str.ofString "Shelf", Str.ofString "ChanceError"] : List Str) ++ cghL)
def asC {β : Type} (g : Addr → Option Obj) (k : List Addr → β) : β :=
  frc (nmA.map (He.ga (He.frG g [mainGlobals]))) fun a1 => frc (nx g n1 a1) fun a2 => frc (nx g n2 a2) fun a3 => frc (nx g n3 a3) fun a4 => frc (nx g n1 a4) fun a5 => k (mainGlobals :: cStatics :: (a1 ++ (a2 ++ (a3 ++ (a4 ++ a5)))))
def asZ (g : Addr → Option Obj) : List Addr := asC g id
theorem asC_eq {β : Type} (g : Addr → Option Obj) (k : List Addr → β) : asC g k = k (asZ g) := by
  unfold asZ asC
  simp only [frc_eq, id]
/-- a list, its spine made plain -/
def frl {α β : Type} : List α → (List α → β) → β
  | [], k => k []
  | a :: r, k => frl r fun r2 => k (a :: r2)
theorem frl_eq {α β : Type} : ∀ (l : List α) (k : List α → β), frl l k = k l
  | [], k => rfl
  | a :: r, k => frl_eq r fun r2 => k (a :: r2)
def obsZG (g : Addr → Option Obj) : AlZ := asC g fun as => frl (He.frT g as) fun K => obsZ g K
theorem obsZG_eq (g : Addr → Option Obj) : obsZG g = obsZ g (He.frT g (asZ g)) := by
  unfold obsZG
  rw [asC_eq, frl_eq]
structure SaysZ (h : Heap) (K : PySem.W.Frag) : Prop where
  a : He5.SaysA fa fn K
  more : moreB K = true
  fz : (exL.map fun e => fnZ K (fA K e.x)) = exL.map valZ
  hd : ∀ p ∈ tf, PySem.W.codeHdIn K (He.cT K p).1 (He.cT K p).2 = true
  out : ∀ p ∈ tf, K.lookup (He.cT K p).2 = none
  empty : ∀ p ∈ tf, h.get? (He.cT K p).2 = some { cls := .none, data := .fields #[] }
theorem saysZ_of {h : Heap} (e : obsZG h.get? = vZ) : SaysZ h (He.frT h.get? (asZ h.get?)) := by
  generalize hK : He.frT h.get? (asZ h.get?) = K at *
  have e0 : obsZ h.get? K = vZ := by
    rw [← hK, ← obsZG_eq]
    exact e
  have e1 : He5.obsA fa fn K = He5.valA fn := congrArg (fun z : AlZ => z.1) e0
  have e2 : (moreB K && He.tabsB h.get? tf K) = true := congrArg (fun z : AlZ => z.2.1) e0
  have e3 : (exL.map fun e => fnZ K (fA K e.x)) = exL.map valZ := congrArg (fun z : AlZ => z.2.2) e0
  obtain ⟨h1, h2⟩ := He.ba e2
  have key : ∀ p ∈ tf, PySem.W.codeHdIn K (He.cT K p).1 (He.cT K p).2 = true ∧ ∃ o, h.get? (He.cT K p).2 = some o ∧ He.emptyTab o = true := fun p hp => by
    obtain ⟨h3, h4⟩ := He.ba (List.all_eq_true.mp h2 p hp)
    refine ⟨h3, ?_⟩
    cases q : h.get? (He.cT K p).2 with
    | none =>
      rw [q] at h4
      cases h4
    | some o =>
      rw [q] at h4
      exact ⟨o, rfl, h4⟩
  exact ⟨e1, h1, e3, fun p hp => (key p hp).1, fun p hp => by
    obtain ⟨_, o, q, z⟩ := key p hp
    have := He.frT_none (as := asZ h.get?) q z
    rw [hK] at this
    exact this, fun p hp => by
    obtain ⟨_, o, q, z⟩ := key p hp
    rw [q, He.emptyTab_eq z]⟩
def hk : PySem.W.Hook where
  α := AlZ
  obs := fun s => obsZG s.heap.get?
  val := fun _ => vZ
  says := fun _ h => ∃ K : PySem.W.Frag, K.In h ∧ SaysZ h K
  of := fun _ _ e => ⟨_, He.frT_in, saysZ_of e⟩
  keeps := fun _ _ _ ⟨K, hK, c⟩ k => ⟨K, PySem.W.Frag.In.keeps hK k, ⟨c.a, c.more, c.fz, c.hd, c.out, fun p hp => k _ _ (c.empty p hp)⟩⟩
abbrev R : PySem.W.OpenRow := PySem.W.OpenLaw.row LAW
def ob (s : PySem.W.SharedT) : AlZ := obsZG (HandSHeadRun.getT s)
theorem ob_eq (s : PySem.W.SharedT) : ob s = hk.obs s.abs := by
  have e : HandSHeadRun.getT s = s.abs.heap.get? := funext fun a => HandSHeadRun.getT_eq s a
  show obsZG (HandSHeadRun.getT s) = obsZG s.abs.heap.get?
  rw [e]
end T83

set_option Elab.async false
set_option linter.all false
set_option maxRecDepth 100000
set_option maxHeartbeats 0
namespace T83
open PySem PySem.Spec PyProof.Rows L2
def lo0 : List Str := ["gcd", "_wall", "ChanceError", "InvalidFraction", "InvalidMachine", "InvalidPolicy", "InvalidWish", "InvalidLot", "InvalidName", "InvalidOperation", "InvalidNumber", "TooMany", "UnknownName", "Refused", "NothingToUndo", "LETTERS_checks", "PAIR_SIZE", "is_whole", "is_within", "is_pair"]
def lo1 : List Str := ["is_letters", "is_ascending", "ZERO", "ONE", "share", "plus", "times", "is_less", "is_at_most", "is_share", "MAX_PLACES", "MAX_CHOICES", "MOST_PRICE", "MOST_PART", "are_parts", "is_choice", "fault_in", "is_machine_in", "is_lot_in", "is_weights_in"]
def lo2 : List Str := ["is_policy_in", "size_of", "choices_at", "goals_in", "chances_in", "mean_in", "stopped_in", "require_machine", "require_place", "require_index", "FALL", "ODD", "goals_by", "all_left", "trimmed", "top_of", "fallen", "struck", "left_after", "is_round_in"]
def lo3 : List Str := ["shows_rounds", "REACH", "AVOID", "AGAIN", "SETTLE", "COLOR", "MOST_COLOR", "are_colors", "is_wish_in", "colored_in", "colors_in", "is_wish", "MOST_PEAK", "SHOW_SIZE", "high_lot", "is_ranks_in", "is_peaks_in", "is_peak_kept", "is_weight_kept", "are_shows"]
def lo4 : List Str := ["are_bars", "shaded", "shows_at_least", "shows_under", "MOST_MACHINES", "MOST_NAME", "LETTERS_shelf", "is_name", "require_amount", "with_choices", "with_part", "is_right_answer", "Shelf", "require_steps", "_law_bowl", "_law_scoop", "_law_one_of", "_law_common", "_law_parts", "_law_machine"]
def lo5 : List Str := ["_law_is_whole", "_law_put", "_law_met", "_law_priced", "_law_parted", "_law_lessened", "_law_rowed", "_law_heard", "_law_wrong", "_law_changed", "_law_put_or_dropped", "_law_same", "_law_right"]
def loose : List Str := lo0 ++ (lo1 ++ (lo2 ++ (lo3 ++ (lo4 ++ (lo5)))))
noncomputable abbrev EndI (w : World) := HandSHeadRun.wholeF (fun p => HandSHeadRun.stepQ (HandSHeadRun.denQ HandSHeadRun.tabQ) p w) HandSHeadRun.fenceQ 20000 R.prog
theorem runA (w : World) : (EndI w).map (fun x => HandSHeadRun.looksF R.prog x.1.heap x.2.abs) = some true := by
  kernel_rfl
theorem runB (w : World) : (EndI w).map (fun x => HandSHeadRun.seenQ (PySem.W.view R.prog [122]) loose (importedModules R.prog.main.body) (fun s => PySem.W.xlAt (PySem.W.view R.prog [122]) [] s && PySem.W.recOk R.toRowW.records s) x.2.abs) = some (PySem.W.openGood (PySem.W.view R.prog [122]) loose) := by
  kernel_rfl
theorem runC (w : World) : (EndI w).map (fun x => ob x.2) = some (hk.val w) := by
  kernel_rfl
theorem map3 {α β γ δ : Type} {o : Option α} {f : α → β} {g : α → γ} {h : α → δ} {b : β} {c : γ} {d : δ} (e1 : o.map f = some b) (e2 : o.map g = some c) (e3 : o.map h = some d) : o.map (fun x => (f x, g x, h x)) = some (b, c, d) := by
  cases o with
  | none => cases e1
  | some x =>
    have e1 := Option.some.inj e1
    have e2 := Option.some.inj e2
    have e3 := Option.some.inj e3
    subst e1 e2 e3
    rfl
theorem runZ (w : World) : HandSHeadRun.RunEqI R (PySem.W.view R.prog [122]) hk ob 20000 loose w := map3 (runA w) (runB w) (runC w)
end T83

set_option Elab.async false
set_option linter.all false
set_option maxRecDepth 100000
set_option maxHeartbeats 2000000
/-! sets of a few nested tuples of whole numbers -/
namespace NS
open PySem PySem.Spec PyProof.Rows L2
mutual
def nu : NestedKey → Bool
  | .num _ => true
  | .tup ks => nuAll ks
  | _ => false
def nuAll : List NestedKey → Bool
  | [] => true
  | k :: ks => nu k && nuAll ks
end
section
variable {P : Program} {w : World}
/-- a question answered by b whatever is asked around -/
def Says (P : Program) (w : World) (m : Sem Bool) (b : Bool) (s : Shared) : Prop := ∀ (A : Around) (E : Value → Shared → Prop) (Q : Bool → Shared → Prop), Q b s → wpAny (model P w) A m Q E s
mutual
theorem cls_key : ∀ (k : NestedKey) (v : Value) (n : Nat) (s : Shared), NestedIs s.heap k v → k.depth ≤ n → Says P w (ofAClassStatement n v) false s
  | .none, _, n, s, x, _ => by
    cases x
    intro A E Q q
    cases n <;> exact wpAny_pure q
  | .num i, _, n, s, x, _ => by
    cases x <;> (intro A E Q q; cases n <;> exact wpAny_pure q)
  | .text y, _, n, s, x, _ => by
    cases x
    intro A E Q q
    cases n <;> exact wpAny_pure q
  | .tup ks, _, n, s, x, hn => by
    cases x with
    | @tup a o vs m _ hg hc hd hk =>
      simp only [NestedKey.depth] at hn
      cases n with
      | zero => omega
      | succ n =>
        have all := cls_keys ks _ n s hk (by omega)
        intro A E Q q
        unfold ofAClassStatement
        refine wpAny_bind (wpAny_typeOf (show s.TypeIs (.ref a) "tuple" from ⟨o, hg, hc⟩) ?_)
        dsimp only
        simp only [show (("tuple" : String) == "tuple") = true by decide, if_true, Bool.not_true, Bool.false_eq_true, if_false]
        try refine wpAny_bind (wpAny_pure ?_)
        try simp only [Bool.not_true, Bool.false_eq_true, if_false]
        show wpAny _ _ (seqItems? (.ref a) >>= _) _ _ s
        refine wpAny_bind (wpAny_seqItems hg hd ?_)
        dsimp only
        refine wpAny_bind ?_
        show wpAny _ _ (forIn vs _ _) _ _ s
        rw [← Array.forIn_toList]
        refine wpAny_forIn_list _ (fun rest r s' => r.1 = none ∧ s' = s ∧ ∀ v ∈ rest, Says P w (ofAClassStatement n v) false s) _ ?_ ?_ _ _ ⟨rfl, rfl, all⟩
        · rintro v rest r s' ⟨z, rfl, al⟩
          refine wpAny_bind (al v List.mem_cons_self _ _ _ ?_)
          simp only [Bool.false_eq_true, if_false]
          exact wpAny_pure ⟨rfl, rfl, fun u y => al u (List.mem_cons_of_mem _ y)⟩
        · rintro ⟨r1, r2⟩ s' ⟨z, rfl, _⟩
          simp only at z
          subst z
          exact wpAny_pure q
theorem cls_keys : ∀ (ks : List NestedKey) (vs : List Value) (n : Nat) (s : Shared), NestedAll s.heap ks vs → NestedKey.depthAll ks ≤ n → ∀ v ∈ vs, Says P w (ofAClassStatement n v) false s
  | [], _, n, s, x, _, v, y => by
    cases x
    cases y
  | k :: ks, _, n, s, x, hn, v, y => by
    cases x with
    | cons x1 x2 =>
      simp only [NestedKey.depthAll] at hn
      rcases List.mem_cons.mp y with e | y
      · rw [e]
        exact cls_key k _ n s x1 (by omega)
      · exact cls_keys ks _ n s x2 (by omega) v y
end
mutual
theorem hb_key : ∀ (k : NestedKey) (v : Value) (n : Nat) (s : Shared), NestedIs s.heap k v → k.depth ≤ n → nu k = true → Says P w (hashByValue n v) true s
  | .none, _, n, s, x, _, c => by simp [nu] at c
  | .num i, _, n, s, x, _, _ => by
    cases x <;> (intro A E Q q; cases n <;> exact wpAny_pure q)
  | .text y, _, n, s, x, _, c => by simp [nu] at c
  | .tup ks, _, n, s, x, hn, c => by
    cases x with
    | @tup a o vs m _ hg hc hd hk =>
      simp only [NestedKey.depth] at hn
      simp only [nu] at c
      cases n with
      | zero => omega
      | succ n =>
        have all := hb_keys ks _ n s hk (by omega) c
        intro A E Q q
        unfold hashByValue
        refine wpAny_bind (wpAny_specialOf (show s.TypeIs (.ref a) "tuple" from ⟨o, hg, hc⟩) F.slot_tuple_hash.lookup ?_)
        show wpAny _ _ (seqItems? (.ref a) >>= _) _ _ s
        refine wpAny_bind (wpAny_seqItems hg hd ?_)
        refine wpAny_bind ?_
        show wpAny _ _ (forIn vs _ _) _ _ s
        rw [← Array.forIn_toList]
        refine wpAny_forIn_list _ (fun rest r s' => r.1 = none ∧ s' = s ∧ ∀ v ∈ rest, Says P w (hashByValue n v) true s) _ ?_ ?_ _ _ ⟨rfl, rfl, all⟩
        · rintro v rest r s' ⟨z, rfl, al⟩
          refine wpAny_bind (al v List.mem_cons_self _ _ _ ?_)
          simp only [Bool.not_true, Bool.false_eq_true, if_false]
          exact wpAny_pure ⟨rfl, rfl, fun u y => al u (List.mem_cons_of_mem _ y)⟩
        · rintro ⟨r1, r2⟩ s' ⟨z, rfl, _⟩
          simp only at z
          subst z
          exact wpAny_pure q
theorem hb_keys : ∀ (ks : List NestedKey) (vs : List Value) (n : Nat) (s : Shared), NestedAll s.heap ks vs → NestedKey.depthAll ks ≤ n → nuAll ks = true → ∀ v ∈ vs, Says P w (hashByValue n v) true s
  | [], _, n, s, x, _, _, v, y => by
    cases x
    cases y
  | k :: ks, _, n, s, x, hn, c, v, y => by
    cases x with
    | cons x1 x2 =>
      simp only [NestedKey.depthAll] at hn
      simp only [nuAll, Bool.and_eq_true] at c
      rcases List.mem_cons.mp y with e | y
      · rw [e]
        exact hb_key k _ n s x1 (by omega) c.1
      · exact hb_keys ks _ n s x2 (by omega) c.2 v y
end
/-- at a: the tuple that is the key k -/
structure Kn (h : Heap) (k : NestedKey) (a : Addr) : Prop where
  is : NestedIs h k (.ref a)
  dep : k.depth ≤ 8
  num : nu k = true
variable {s : Shared}
theorem Kn.at {h h' : Heap} {k : NestedKey} {a : Addr} (x : Kn h k a) (hk : ∀ b o vs n, h.get? b = some o → o.data = .seq vs n → h'.get? b = some o) : Kn h' k a := ⟨NestedIs.at hk _ _ x.is, x.dep, x.num⟩
theorem Kn.kept {h h' : Heap} {k : NestedKey} {a : Addr} (x : Kn h k a) (hk : ∀ b o, h.get? b = some o → h'.get? b = some o) : Kn h' k a := x.at fun b o _ _ e _ => hk b o e
theorem Kn.cls {k : NestedKey} {a : Addr} (x : Kn s.heap k a) : Says P w (ofAClassStatement 8 (.ref a)) false s := cls_key k _ 8 s x.is x.dep
theorem Kn.byv {k : NestedKey} {a : Addr} (x : Kn s.heap k a) : Says P w (hashByValue 8 (.ref a)) true s := hb_key k _ 8 s x.is x.dep x.num
theorem Kn.quiet {k : NestedKey} {a : Addr} (x : Kn s.heap k a) : Says P w (eqIsQuiet 8 (.ref a)) true s := fun A E Q q => quiet_key k _ 8 s x.is x.dep A E Q q
theorem Kn.inj {h : Heap} {k k' : NestedKey} {a : Addr} (x : Kn h k a) (y : Kn h k' a) : k = k' := NestedIs.inj _ _ _ x.is y.is
theorem Kn.eqb {k k' : NestedKey} {a b : Addr} (x : Kn s.heap k a) (y : Kn s.heap k' b) {A : Around} {E : Value → Shared → Prop} {Q : Bool → Shared → Prop} (hu : A.units + 8 < cLine) (q : Q (decide (k = k')) s) : wpAny (model P w) A (eqBool (.ref a) (.ref b)) Q E s :=
  (nestedKind P w).eqBool hu ⟨x.is, x.dep⟩ ⟨y.is, y.dep⟩ q
theorem Kn.hsh {k : NestedKey} {a : Addr} (x : Kn s.heap k a) {A : Around} {E : Value → Shared → Prop} {Q : Int → Shared → Prop} (hu : A.units + 8 < cLine) (q : Q (k.hash w) { s with toks := s.toks + k.draws }) : wpAny (model P w) A (pyHash (.ref a)) Q E s :=
  (nestedKind P w).pyHash hu ⟨x.is, x.dep⟩ q
/-- a look among such tuples is told to nobody -/
theorem unseen {k : NestedKey} {b : Addr} (x : Kn s.heap k b) {ys : List Value} (hy : ∀ y ∈ ys, ∃ k' c, y = Value.ref c ∧ Kn s.heap k' c) : Says P w (searchCouldBeSeen (.ref b) ys) false s := fun A E Q q => by
  unfold searchCouldBeSeen
  refine wpAny_bind ?_
  refine wpAny_forIn_list _ (fun rest r s' => r.1 = none ∧ s' = s ∧ ∀ y ∈ rest, ∃ k' c, y = Value.ref c ∧ Kn s.heap k' c) _ ?_ ?_ _ _ ⟨rfl, rfl, hy⟩
  · rintro v rest r s' ⟨z, rfl, al⟩
    obtain ⟨k', c, rfl, y⟩ := al v List.mem_cons_self
    have al' : ∀ u ∈ rest, ∃ k' c, u = Value.ref c ∧ Kn s'.heap k' c := fun u m => al u (List.mem_cons_of_mem _ m)
    dsimp only
    by_cases same : (b == c || (carriedByValue (.ref b) && carriedByValue (.ref c))) = true
    · exact wp_if_pos same (wpAny_pure ⟨rfl, rfl, al'⟩)
    · refine wp_if_neg same (wpAny_bind (x.quiet _ _ _ ?_))
      simp only [Bool.not_true, Bool.false_eq_true, if_false]
      refine wpAny_bind (y.quiet _ _ _ ?_)
      simp only [Bool.not_true, Bool.false_eq_true, if_false]
      refine wpAny_bind (x.cls _ _ _ ?_)
      simp only [Bool.false_eq_true, if_false]
      refine wpAny_bind (y.cls _ _ _ ?_)
      simp only [Bool.false_eq_true, if_false]
      exact wpAny_pure ⟨rfl, rfl, al'⟩
  · rintro ⟨r1, r2⟩ s' ⟨z, rfl, _⟩
    simp only at z
    subst z
    exact wpAny_pure q
end
end NS

set_option Elab.async false
set_option linter.all false
set_option maxRecDepth 100000
set_option maxHeartbeats 2000000
namespace NS
open PySem PySem.Spec PyProof.Rows L2
abbrev Itm : Type := Addr × NestedKey
def tbl (w : World) (L : List Itm) : List (Int × Value) := L.map fun p => (p.2.hash w, Value.ref p.1)
def hss (w : World) (L : List Itm) : List Int := L.map fun p => p.2.hash w
/-- the set at a: a few such tuples, its table as it was made -/
structure SN (w : World) (h : Heap) (a : Addr) (L : List Itm) (es : Array (Int × Value)) (ep : Nat) (t : SetTable) : Prop where
  ob : ∃ o, h.get? a = some o ∧ o.ExactSet ∧ o.data = .set es ep t
  rows : es.toList = tbl w L
  tab : TabOk t (hss w L)
  nd : (L.map (·.2)).Nodup
  mem : ∀ p ∈ L, Kn h p.2 p.1
  plain : t.plain = true
  led : w.params.followText "set-order" = true ∨ t.led = true
  m7 : t.mask = 7
  few : L.length ≤ 4
/-- the probe behind c steps, for the hash g -/
abbrev prb (t : SetTable) (g : Int) (c : Nat) : SetTable.Probe := nth t.mask (runAt t.mask (SetTable.bits g % (t.mask + 1)) (SetTable.bits g)) c
theorem prb_add (t : SetTable) (g : Int) (c q : Nat) : nth t.mask (prb t g c) q = prb t g (c + q) := (nth_add t.mask c _ q).symm
theorem prb_j (t : SetTable) (g : Int) (c q : Nat) : (nth t.mask (prb t g c) q).j = way t.mask g (c + q) := congrArg SetTable.Probe.j (prb_add t g c q)
theorem nth_nod {m : Nat} : ∀ (n : Nat) (p : SetTable.Probe), p.dummy = none → (nth m p n).dummy = none
  | 0, p, h => h
  | n + 1, p, h => nth_nod n (adv m p) (by
    unfold adv
    split <;> exact h)
section
variable {P : Program} {w : World} {A : Around} {E : Value → Shared → Prop} {s : Shared} {a : Addr} {L : List Itm} {es : Array (Int × Value)} {ep : Nat} {t : SetTable}
theorem SN.len (R : SN w s.heap a L es ep t) : es.size = L.length := by
  rw [← Array.length_toList, R.rows]
  exact List.length_map _
theorem SN.plc (R : SN w s.heap a L es ep t) : t.place.size = L.length := by
  rw [R.tab.sz]
  exact List.length_map _
theorem SN.fit (R : SN w s.heap a L es ep t) : t.fits es.size = true := by
  unfold SetTable.fits SetTable.fill
  rw [R.tab.dm, Bool.and_eq_true, beq_iff_eq, decide_eq_true_eq, R.plc, R.len, R.m7]
  refine ⟨rfl, ?_⟩
  show L.length + 0 ≤ 7
  have := R.few
  omega
theorem SN.row (R : SN w s.heap a L es ep t) {i : Nat} {p : Itm} (h : L[i]? = some p) : es[i]? = some (p.2.hash w, Value.ref p.1) := by
  rw [← Array.getElem?_toList, R.rows]
  show (L.map _)[i]? = _
  rw [List.getElem?_map, h]
  rfl
theorem SN.gw (R : SN w s.heap a L es ep t) : ¬ t.gaveWay = true := by
  unfold SetTable.gaveWay
  rw [mask_odd R.tab.mok]
  decide
theorem look_from (R : SN w s.heap a L es ep t) {x : Addr} {k : NestedKey} (hx : Kn s.heap k x) (hu : A.units + 8 < cLine) {N : Nat} (n1 : N < 10 * SetTable.turns t.mask) (n2 : way t.mask (k.hash w) N ∉ t.place.toList) (n3 : ∀ c, c < N → way t.mask (k.hash w) c ∈ t.place.toList)
    {Q : SetFound → Shared → Prop} (yes : k ∈ L.map (·.2) → Q (.there none) s) (no : k ∉ L.map (·.2) → Q (.free (way t.mask (k.hash w) N) false) s) : ∀ (f c : Nat) (stand : Option SetTable.Probe), stand.getD (t.probeStart (k.hash w)) = prb t (k.hash w) c → c ≤ N → N - c < f →
      (∀ (i : Nat) p, L[i]? = some p → p.2 = k → ∃ d, c ≤ d ∧ d < N ∧ t.place.toList[i]? = some (way t.mask (k.hash w) d)) → wpAny (model P w) A (setSearchFrom a (.ref x) (k.hash w) true f stand) Q E s
  | 0, c, stand, _, _, z, _ => absurd z (Nat.not_lt_zero _)
  | f + 1, c, stand, es1, le, lt, on => by
    obtain ⟨o, ho, hex, hd⟩ := R.ob
    have hAt : ∀ (i : Nat) (p : Itm), L[i]? = some p → (es[i]?.map (·.1)).getD 0 = p.2.hash w := fun i p e => by
      rw [R.row e]
      rfl
    rw [setSearchFrom_succ]
    refine wpAny_bind (wpAny_setState_of ho hd R.fit ?_)
    dsimp only
    refine wp_if_neg R.gw ?_
    try refine wpAny_bind (wpAny_pure ?_)
    have spec := go_spec t R.tab.ris R.tab.dm (fun i => (es[i]?.map (·.1)).getD 0) (k.hash w) (10 * SetTable.turns t.mask) (N - c) (prb t (k.hash w) c) (nth_nod c _ rfl) (by omega) (fun q z => by rw [prb_j]; exact n3 (c + q) (by omega)) (by rw [prb_j, show c + (N - c) = N by omega]; exact n2)
    rcases spec with ⟨q, i, hq, hi, hh, hno, pr⟩ | ⟨hno, pr⟩
    · have pr2 : t.probe (fun i => (es[i]?.map (·.1)).getD 0) (k.hash w) (stand.getD (t.probeStart (k.hash w))) = some (.candidate (way t.mask (k.hash w) (c + q)) i (prb t (k.hash w) (c + (q + 1)))) := by
        rw [es1, ← prb_j, ← prb_add]
        exact pr
      rw [pr2]
      dsimp only
      rw [prb_j] at hi
      have il : i < L.length := by
        rw [← R.plc]
        exact Array.length_toList ▸ (List.getElem?_eq_some_iff.mp hi).1
      obtain ⟨p, hp⟩ : ∃ p, L[i]? = some p := ⟨_, List.getElem?_eq_getElem il⟩
      have pm : p ∈ L := List.mem_of_getElem? hp
      have rest : wpAny (model P w) A (searchRest a (.ref x) (k.hash w) true f es t (way t.mask (k.hash w) (c + q)) i (prb t (k.hash w) (c + (q + 1)))) Q E s := by
        unfold searchRest
        rw [R.row hp]
        dsimp only
        refine wpAny_bind (wpAny_holding ((R.mem p pm).eqb hx hu ?_))
        refine wpAny_bind (wpAny_setState_of ho hd R.fit ?_)
        dsimp only
        by_cases ek : p.2 = k
        · exact wp_if_pos (by simp [ek]) (wpAny_pure (yes (List.mem_map.mpr ⟨p, pm, ek⟩)))
        · refine wp_if_neg (by simp [ek]) ?_
          try refine wpAny_bind (wpAny_pure ?_)
          rw [sameMem]
          dsimp only
          have sl : t.slot (way t.mask (k.hash w) (c + q)) = .live i := slot_live R.tab.ris hi
          simp only [if_true, sl, R.row hp]
          refine wpAny_bind (wpAny_isSame_ref_self (wpAny_bind (wpAny_pure ?_)))
          simp only [if_true]
          refine wp_if_neg (by simp [ek]) ?_
          refine look_from R hx hu n1 n2 n3 yes no f (c + (q + 1)) _ rfl (by omega) (by omega) fun i0 p0 e0 k0 => ?_
          obtain ⟨d, b1, b2, b3⟩ := on i0 p0 e0 k0
          refine ⟨d, ?_, b2, b3⟩
          by_cases z : d < c + q
          · refine absurd ((hAt i0 p0 e0).trans (congrArg (NestedKey.hash w) k0)) (hno (d - c) i0 (by omega) ?_)
            rw [prb_j, show c + (d - c) = d by omega]
            exact b3
          · by_cases y : d = c + q
            · rw [y] at b3
              have s0 := (slot_live R.tab.ris b3).symm.trans sl
              injection s0 with s0
              rw [s0, hp] at e0
              exact absurd ((congrArg Prod.snd (Option.some.inj e0)).trans k0) ek
            · omega
      by_cases ld : t.led = true
      · refine wp_if_neg (by simp [ld]) ?_
        try refine wpAny_bind (wpAny_pure ?_)
        exact rest
      · refine wp_if_pos (by simp [ld]) (wpAny_bind (unseen hx (fun y hy => ?_) _ _ _ ?_))
        · obtain ⟨e, he, ee⟩ := List.mem_map.mp hy
          have m1 : e ∈ es ∧ e.1 = k.hash w := by simpa using he
          have m2 : e ∈ es.toList := by simpa using m1.1
          rw [R.rows] at m2
          obtain ⟨p2, q2, e2⟩ := List.mem_map.mp m2
          exact ⟨p2.2, p2.1, by rw [← ee, ← e2], R.mem p2 q2⟩
        · refine wp_if_neg (by decide) ?_
          try refine wpAny_bind (wpAny_pure ?_)
          exact rest
    · have pr2 : t.probe (fun i => (es[i]?.map (·.1)).getD 0) (k.hash w) (stand.getD (t.probeStart (k.hash w))) = some (.empty (way t.mask (k.hash w) N) none) := by
        have ej : way t.mask (k.hash w) N = (nth t.mask (prb t (k.hash w) c) (N - c)).j := by rw [prb_j, show c + (N - c) = N by omega]
        rw [es1, ej]
        exact pr
      rw [pr2]
      dsimp only
      refine wpAny_pure (no fun hm => ?_)
      obtain ⟨p0, m0, k0⟩ := List.mem_map.mp hm
      obtain ⟨i0, l0, e0⟩ := List.getElem_of_mem m0
      have e1 : L[i0]? = some p0 := by rw [List.getElem?_eq_getElem l0, e0]
      obtain ⟨d, b1, b2, b3⟩ := on i0 p0 e1 k0
      refine absurd ((hAt i0 p0 e1).trans (congrArg (NestedKey.hash w) k0)) (hno (d - c) i0 (by omega) ?_)
      rw [prb_j, show c + (d - c) = d by omega]
      exact b3
theorem look (R : SN w s.heap a L es ep t) {x : Addr} {k : NestedKey} (hx : Kn s.heap k x) (hu : A.units + 8 < cLine) {Q : SetFound → Shared → Prop} (yes : k ∈ L.map (·.2) → Q (.there none) s)
    (no : ∀ N, k ∉ L.map (·.2) → way t.mask (k.hash w) N ∉ t.place.toList → (∀ c, c < N → way t.mask (k.hash w) c ∈ t.place.toList) → Q (.free (way t.mask (k.hash w) N) false) s) : wpAny (model P w) A (setSearch a (.ref x) (k.hash w) true) Q E s := by
  obtain ⟨N, n1, n2, n3⟩ := R.tab.first (by rw [show (hss w L).length = L.length from List.length_map _, R.m7]; have := R.few; omega) (k.hash w)
  have big : N < 100000 := by
    have : 10 * SetTable.turns t.mask ≤ 1420 := by
      unfold SetTable.turns
      rw [R.m7]
      omega
    omega
  unfold setSearch
  refine look_from R hx hu n1 n2 n3 yes (fun z => no N z n2 n3) 100000 0 none rfl (Nat.zero_le _) (by omega) fun i p hp hk => ?_
  have il : i < t.place.toList.length := by
    rw [Array.length_toList, R.plc]
    exact (List.getElem?_eq_some_iff.mp hp).1
  obtain ⟨c, hc, e⟩ := R.tab.before n2 (show (hss w L)[i]? = some (k.hash w) by
    show (L.map _)[i]? = _
    rw [List.getElem?_map, hp, ← hk]
    rfl) (List.getElem?_eq_getElem il)
  exact ⟨c, Nat.zero_le _, hc, by rw [List.getElem?_eq_getElem il, e]⟩
end
end NS

set_option Elab.async false
set_option linter.all false
set_option maxRecDepth 100000
set_option maxHeartbeats 3200000
namespace NS
open PySem PySem.Spec PyProof.Rows L2
theorem ins_perm {α : Type} (L : List α) (p : Nat) (x : α) : (L.take p ++ x :: L.drop p).Perm (x :: L) := by
  have h : (L.take p ++ x :: L.drop p).Perm (x :: (L.take p ++ L.drop p)) := List.perm_middle
  rwa [List.take_append_drop] at h
theorem ins_map {α β : Type} (f : α → β) (L : List α) (p : Nat) (x : α) : (L.take p ++ x :: L.drop p).map f = (L.map f).take p ++ f x :: (L.map f).drop p := by rw [List.map_append, List.map_cons, List.map_take, List.map_drop]
section
variable {P : Program} {w : World} {A : Around} {E : Value → Shared → Prop} {s : Shared} {a : Addr} {L : List Itm} {es : Array (Int × Value)} {ep : Nat} {t : SetTable}
theorem Kn.other {h h' : Heap} {k : NestedKey} {b : Addr} {o : Obj} (x : Kn h k b) (ho : h.get? a = some o) (hd : o.data = .set es ep t) (hs : Heap.SameBut a h h') : Kn h' k b :=
  x.at fun c u vs n e1 e2 => (hs.2 c fun z => by
    rw [z, ho] at e1
    cases e1
    rw [hd] at e2
    cases e2).trans e1
/-- one more -/
theorem add_n (R : SN w s.heap a L es ep t) {x : Addr} {k : NestedKey} (hx : Kn s.heap k x) (hu : A.units + 8 < cLine) (h3 : L.length ≤ 3) {Q : Bool → Shared → Prop}
    (q : ∀ b h' L' es' ep' t', Heap.SameBut a s.heap h' → SN w h' a L' es' ep' t' → (k ∈ L.map (·.2) → L' = L) → (k ∉ L.map (·.2) → L'.Perm ((x, k) :: L)) → Q b { s with heap := h' }) : wpAny (model P w) A (setAddHashed a (.ref x) (k.hash w)) Q E s := by
  obtain ⟨o, ho, hex, hd⟩ := R.ob
  unfold setAddHashed
  refine wpAny_holding ?_
  rw [show (100000 : Nat) = 99999 + 1 from rfl, setAddHashedIn_succ]
  refine wpAny_bind (wpAny_setState_of ho hd R.fit ?_)
  dsimp only
  refine wp_if_neg (by simp [byScan, Value.scannable]) ?_
  try refine wpAny_bind (wpAny_pure ?_)
  refine wpAny_bind (look R hx hu (fun z => ?_) fun N z n2 n3 => ?_)
  · dsimp only
    exact wpAny_pure (q false s.heap L es ep t (Heap.SameBut.refl a s.heap) R (fun _ => rfl) fun y => absurd z y)
  · dsimp only
    refine wpAny_bind (wpAny_setState_of ho hd R.fit ?_)
    dsimp only
    obtain ⟨q1, q2, q3, q4, q5, q6, q7, q8, q9⟩ := R.tab.put n2 n3
    have pl1 : (t.put (way t.mask (k.hash w) N)).1.plain = true := q6.trans R.plain
    generalize hpt : t.put (way t.mask (k.hash w) N) = pt at q1 q3 q4 q5 q6 q7 q8 q9 pl1 ⊢
    obtain ⟨t1, i⟩ := pt
    dsimp only at q1 q3 q4 q5 q6 q7 q8 q9 pl1 ⊢
    subst q1
    first
      | (refine wpAny_bind ?_; refine wp_if_pos pl1 (hx.byv _ _ _ ?_))
      | refine wp_if_pos pl1 (wpAny_bind (hx.byv _ _ _ ?_))
    simp only [if_true]
    have rows1 : (SetTable.insertAt es (SetTable.below t.place (way t.mask (k.hash w) N)) (k.hash w, Value.ref x)).toList = tbl w (L.take (SetTable.below t.place (way t.mask (k.hash w) N)) ++ (x, k) :: L.drop (SetTable.below t.place (way t.mask (k.hash w) N))) := by
      rw [SetTable.toList_insertAt, R.rows]
      exact (ins_map (fun p : Itm => (p.2.hash w, Value.ref p.1)) L _ (x, k)).symm
    have q3' : TabOk t1 (hss w (L.take (SetTable.below t.place (way t.mask (k.hash w) N)) ++ (x, k) :: L.drop (SetTable.below t.place (way t.mask (k.hash w) N)))) := by
      rw [show hss w (L.take (SetTable.below t.place (way t.mask (k.hash w) N)) ++ (x, k) :: L.drop (SetTable.below t.place (way t.mask (k.hash w) N))) = _ from ins_map (fun p : Itm => p.2.hash w) L _ (x, k)]
      exact q3
    clear q3
    generalize SetTable.below t.place (way t.mask (k.hash w) N) = i at q2 q3' rows1 ⊢
    have pm := ins_perm L i (x, k)
    generalize SetTable.insertAt es i (k.hash w, Value.ref x) = es1 at rows1 ⊢
    generalize L.take i ++ (x, k) :: L.drop i = L1 at pm q3' rows1
    have l1 : L1.length = L.length + 1 := pm.length_eq
    have nd1 : (L1.map (·.2)).Nodup := (pm.map (·.2)).nodup_iff.mpr (List.nodup_cons.mpr ⟨z, R.nd⟩)
    have z1 : es1.size = L.length + 1 := by
      rw [← Array.length_toList, rows1, ← l1]
      exact List.length_map _
    refine wpAny_bind (wpAny_storeSet_of ho hd ?_ (by rw [z1, sizeLine_eq]; omega))
    have sb : Heap.SameBut a s.heap (s.heap.update a (Obj.putSet es1 t1)) := Heap.SameBut.update ..
    have ho1 := store_at (es' := es1) (t' := t1) ho hd
    generalize s.heap.update a (Obj.putSet es1 t1) = h1 at sb ho1 ⊢
    have mem1 : ∀ p ∈ L1, Kn h1 p.2 p.1 := fun p hp => by
      rcases List.mem_cons.mp (pm.mem_iff.mp hp) with e | hp
      · rw [e]
        exact hx.other ho hd sb
      · exact (R.mem p hp).other ho hd sb
    have nf : ¬ t1.tooFull = true := by
      unfold SetTable.tooFull
      rw [decide_eq_true_eq, q9, q4, R.m7, show (hss w L).length = L.length from List.length_map _]
      omega
    first
      | refine wp_if_neg (by simp [nf]) ?_
      | (refine wpAny_bind ?_; refine wp_if_neg (by simp [nf]) ?_; refine wpAny_pure ?_)
    exact wpAny_pure (q true h1 L1 es1 (ep + 1) t1 sb ⟨⟨_, ho1, ⟨hex.1, hex.2.1, hex.2.2⟩, rfl⟩, rows1, q3', nd1, mem1, pl1, by rw [q5]; exact R.led, q4.trans R.m7, by rw [l1]; omega⟩ (fun y => absurd y z) fun _ => pm)
/-- what the first i of them leave in the set -/
structure Gt (ks : List Itm) (i : Nat) (L : List Itm) : Prop where
  sub : ∀ p ∈ L, p ∈ ks.take i
  all : ∀ p ∈ ks.take i, p.2 ∈ L.map (·.2)
  le : L.length ≤ i
theorem take_one {α : Type} {l : List α} {i : Nat} {x : α} (h : l[i]? = some x) : l.take (i + 1) = l.take i ++ [x] := by
  rw [List.take_succ, h]
  rfl
theorem Gt.step {ks L L' : List Itm} {i : Nat} {x : Itm} (g : Gt ks i L) (h : ks[i]? = some x) (c1 : x.2 ∈ L.map (·.2) → L' = L) (c2 : x.2 ∉ L.map (·.2) → L'.Perm (x :: L)) : Gt ks (i + 1) L' := by
  have e := take_one h
  by_cases m : x.2 ∈ L.map (·.2)
  · rw [c1 m]
    refine ⟨fun p hp => e ▸ List.mem_append_left _ (g.sub p hp), fun p hp => ?_, Nat.le_succ_of_le g.le⟩
    rcases List.mem_append.mp (e ▸ hp) with z | z
    · exact g.all p z
    · rw [List.mem_singleton.mp z]
      exact m
  · have pm := c2 m
    refine ⟨fun p hp => ?_, fun p hp => ?_, by rw [pm.length_eq]; exact Nat.succ_le_succ g.le⟩
    · rw [e]
      rcases List.mem_cons.mp (pm.mem_iff.mp hp) with z | z
      · exact List.mem_append_right _ (List.mem_singleton.mpr z)
      · exact List.mem_append_left _ (g.sub p z)
    · rw [(pm.map (·.2)).mem_iff, List.map_cons]
      rcases List.mem_append.mp (e ▸ hp) with z | z
      · exact List.mem_cons_of_mem _ (g.all p z)
      · rw [List.mem_singleton.mp z]
        exact List.mem_cons_self
theorem SN.kept {h h' : Heap} (R : SN w h a L es ep t) (ha : ∀ o, h.get? a = some o → h'.get? a = some o) (hm : ∀ p ∈ L, Kn h' p.2 p.1) : SN w h' a L es ep t := by
  obtain ⟨o, ho, r⟩ := R.ob
  exact ⟨⟨o, ha o ho, r⟩, R.rows, R.tab, R.nd, hm, R.plain, R.led, R.m7, R.few⟩
theorem SN.new {h : Heap} (ho : h.get? a = some { cls := .type "set", dict := none, data := .set #[] 0 (.fresh 0 0 (!w.params.followText "set-order")) }) : SN w h a [] #[] 0 (.fresh 0 0 (!w.params.followText "set-order")) :=
  ⟨⟨_, ho, ⟨rfl, rfl, rfl⟩, rfl⟩, rfl, ⟨List.Pairwise.nil, rfl, rfl, .inl rfl, fun x hx => (by cases hx), fun i h j hi => (by simp [hss] at hi)⟩, List.nodup_nil, fun p hp => (by cases hp), rfl, by
    show _ ∨ (!w.params.followText "set-order") = true
    cases w.params.followText "set-order"
    · exact .inr rfl
    · exact .inl rfl, rfl, Nat.zero_le _⟩
/-- the loop that fills it -/
theorem fill_n {I : Addr} {fp wr : List Addr} {G : Array GenState → Array GenState → Prop} {n : Nat} {Pv : Nat → Value → Prop} {St : Nat → Shared → Prop} {R : Result → Shared → Prop} (W : WalksS P w A.in1 I fp wr G n Pv St) (Z : Addr) (nZ : Z ∉ fp) (ks : List Itm) (hn : n = ks.length)
    (few : ks.length ≤ 4) (val : ∀ i v, Pv i v → ∃ p, ks[i]? = some p ∧ v = .ref p.1) (h0 : Heap) (hk : ∀ p ∈ ks, Kn h0 p.2 p.1) (z0 : h0.get? Z = none) (w0 : ∀ b ∈ wr, h0.get? b = none) (hu : A.in1.units + 8 < cLine) :
    ∀ (m i : Nat) (s : Shared), n - i = m → i ≤ n → St i s → (∀ b o, h0.get? b = some o → s.heap.get? b = some o) → (∃ L es ep t, SN w s.heap Z L es ep t ∧ Gt ks i L) →
      (∀ s' L es ep t, Moved (Z :: wr) G s s' → SN w s'.heap Z L es ep t → Gt ks n L → (∀ b o, h0.get? b = some o → s'.heap.get? b = some o) → R (.ok (.ret .none)) s') → codeAny (model P w) A (.builtin "set.update.loop" ⟨[.ref Z, .ref I], []⟩) R s := by
  have Zw : Z ∉ wr := fun h => nZ (W.sub _ h)
  have up : ∀ b ∈ wr, b ∈ Z :: wr := fun b hb => List.mem_cons_of_mem _ hb
  have kept : ∀ {s s' : Shared}, Moved wr G s s' → (∀ b o, h0.get? b = some o → s.heap.get? b = some o) → ∀ b o, h0.get? b = some o → s'.heap.get? b = some o := fun hm hkp b o e =>
    hm.heap b o (fun hb => by rw [w0 b hb] at e; cases e) (hkp b o e)
  intro m
  induction m with
  | zero =>
    intro i s em le hst kp ⟨L, es, ep, t, hS, g⟩ hR
    obtain rfl : i = n := by omega
    refine codeAny_builtin F.entry_set_update_loop ?_
    rw [Around.under_plainId F.plain_set_update_loop _]
    show wpAny _ A.in1 (pyNext (.ref I) >>= _) _ _ s
    refine wpAny_bind (W.done s _ _ hst fun s' hm => ?_)
    show wpAny _ A.in1 (ret Value.none) _ _ s'
    have kp' := kept hm kp
    exact wpAny_pure (hR s' L es ep t (hm.mono up) (hS.kept (fun o e => hm.heap Z o Zw e) fun p hp => (hk p (List.mem_of_mem_take (g.sub p hp))).kept kp') g kp')
  | succ m ih =>
    intro i s em le hst kp ⟨L, es, ep, t, hS, g⟩ hR
    have lt : i < n := by omega
    refine codeAny_builtin F.entry_set_update_loop ?_
    rw [Around.under_plainId F.plain_set_update_loop _]
    show wpAny _ A.in1 (pyNext (.ref I) >>= _) _ _ s
    refine wpAny_bind (W.item i s _ _ lt hst fun v s' hP hst' hm => ?_)
    obtain ⟨p, hp, rfl⟩ := val i v hP
    have kp' := kept hm kp
    have hS' : SN w s'.heap Z L es ep t := hS.kept (fun o e => hm.heap Z o Zw e) fun q hq => (hk q (List.mem_of_mem_take (g.sub q hq))).kept kp'
    have hx : Kn s'.heap p.2 p.1 := (hk p (List.mem_of_getElem? hp)).kept kp'
    show wpAny _ A.in1 (holding [Value.ref p.1] (setAdd Z (.ref p.1)) >>= _) _ _ s'
    refine wpAny_bind (wpAny_holding ?_)
    unfold setAdd
    refine wpAny_holding (wpAny_bind (hx.hsh hu ?_))
    refine add_n (s := { s' with toks := s'.toks + p.2.draws }) hS' hx hu (by have := g.le; omega) fun b h' L' es' ep' t' hsb hS2 c1 c2 => ?_
    have kp2 : ∀ b o, h0.get? b = some o → h'.get? b = some o := fun b o e => (hsb.2 b (fun z => by rw [z, z0] at e; cases e)).trans (kp' b o e)
    refine wpAny_pure ⟨plainId_quiet F.plain_set_update_loop _, ih (i + 1) _ (by omega) lt (W.frame _ s' _ _ hst' (Nat.le_add_right _ _) fun b hb o e => ?_) kp2 ⟨L', es', ep', t', hS2, g.step hp c1 c2⟩ fun s'' L2 es2 ep2 t2 hm2 hS3 g3 kp3 => ?_⟩
    · rw [hsb.2 b (fun h : b = Z => nZ (by rw [← h]; exact hb))]
      exact e
    · refine hR s'' L2 es2 ep2 t2 (Moved.trans W.gtrans ((hm.mono up).then_heap (Nat.le_add_right _ _) fun b o hb e => ?_) hm2) hS3 g3 kp3
      rw [hsb.2 b (fun h : b = Z => hb (by rw [h]; exact List.mem_cons_self))]
      exact e
end
end NS

set_option Elab.async false
set_option linter.all false
set_option maxRecDepth 100000
set_option maxHeartbeats 3200000
namespace NS
open PySem PySem.Spec PyProof.Rows L2
abbrev sO (w : World) : Obj := { cls := .type "set", dict := none, data := .set #[] 0 (.fresh 0 0 (!w.params.followText "set-order")) }
section
variable {P : Program} {w : World} {A : Around} {E : Value → Shared → Prop} {s : Shared}
theorem refs_at {ks : List Itm} {items : Array Value} (hit : items.toList = ks.map fun p => Value.ref p.1) (i : Nat) (v : Value) (hv : items[i]? = some v) : ∃ p, ks[i]? = some p ∧ v = .ref p.1 := by
  have q : items.toList[i]? = some v := by rw [Array.getElem?_toList]; exact hv
  rw [hit, List.getElem?_map] at q
  cases e : ks[i]? with
  | none =>
    rw [e] at q
    cases q
  | some p =>
    rw [e] at q
    exact ⟨p, rfl, (Option.some.inj q).symm⟩
theorem beyond {h : Heap} {b : Addr} (hb : h.objs.size ≤ b) : h.get? b = none := by
  cases q : h.get? b with
  | none => rfl
  | some o => exact absurd (Nat.lt_of_lt_of_le (Heap.lt_size q) hb) (Nat.lt_irrefl _)
/-- set(xs), xs a list of at most four such tuples -/
theorem call_set_n {l : Addr} {items : Array Value} (ks : List Itm) {Q : Value → Shared → Prop} (hh : A.handled = none) (hl : s.heap.IsList l items) (hit : items.toList = ks.map fun p => Value.ref p.1) (hk : ∀ p ∈ ks, Kn s.heap p.2 p.1) (few : ks.length ≤ 4) (hu : A.units + 11 < cLine)
    (q : ∀ (h' : Heap) (tk : Nat) L es ep t, SN w h' s.heap.objs.size L es ep t → Gt ks ks.length L → (∀ b o, s.heap.get? b = some o → h'.get? b = some o) → Q (.ref s.heap.objs.size) { s with heap := h', toks := tk }) : wpAny (model P w) A (call (.type "set") [.ref l]) Q E s := by
  have isz : items.size = ks.length := by
    rw [← Array.length_toList, hit]
    exact List.length_map _
  obtain ⟨c, tl, hmro⟩ := F.called_set.mro
  have hmade := F.called_set.made
  have hsub := F.called_set.sub
  refine wpAny_call (codeAny_of_tree ?_)
  show wpAny _ _ (callAny (.type "set") _) _ _ _
  refine wpAny_pure ⟨Code.quiet_builtin _ (by decide +kernel), codeAny_builtin F.entry_type_call ?_⟩
  rw [Around.under_plain (weight_type_call_type "set" [.ref l] []) rfl]
  have h1 := F.called_set.notType
  have h2 := F.called_set.canCreate
  have hct := F.typeCall_set_1 (.ref l)
  repeat (any_goals (first | assumption | wp_step))
  refine codeAny_mono (code_set_led1 (.ref l) (E := E) (Q₁ := fun obj s₁ => obj = .ref s.heap.objs.size ∧ s₁ = { s with heap := s.heap.push (sO w) }) ⟨rfl, rfl⟩) fun r s₁ hr => ?_
  cases r with
  | error e => exact hr
  | ok fl =>
    cases fl with
    | ret obj =>
      obtain ⟨rfl, rfl⟩ := hr
      have hS : (s.heap.push (sO w)).get? s.heap.objs.size = some (sO w) := Heap.get?_push_size _ rfl
      have hT : Shared.TypeIs { s with heap := s.heap.push (sO w) } (.ref s.heap.objs.size) "set" := ⟨_, hS, rfl⟩
      have hli := F.called_set.init.lookup
      have hbi := F.called_set.init.bind (.ref s.heap.objs.size)
      repeat (any_goals (first | assumption | wp_step))
      refine codeAny_mono (codeAny_call_builtin (R := wants (fun r s₂ => r = .none ∧ ∃ h' tk L es ep t, s₂ = { s with heap := h', toks := tk } ∧ SN w h' s.heap.objs.size L es ep t ∧ Gt ks ks.length L ∧ (∀ b o, s.heap.get? b = some o → h'.get? b = some o)) E)
        F.called_set.init.plain F.entry_set_init (check_set_init_1 hT ?_)) fun r₂ s₂ hr₂ => ?_
      · obtain ⟨ol, hol, hcl, nl, hdl⟩ := hl
        obtain ⟨ocls, odict, odata, oslots⟩ := ol
        simp only at hcl hdl
        subst hcl; subst hdl
        have hol' : (s.heap.push (sO w)).get? l = some { cls := .type "list", dict := odict, data := .seq items nl, slots := oslots } := Heap.get?_push_of_some _ hol
        have hsls := F.sub_list_set
        have hslf := F.sub_list_frozenset
        have hne : (Value.type "list" == Value.type "dict") = false := by decide
        have hl1 : (s.heap.push (sO w)).IsList l items := ⟨_, hol', rfl, nl, rfl⟩
        unfold Builtin.«set.__init__» noKeywords Builtin.Frozenset.updateFrom
        generalize hPI : pyIter = PI
        wp_walk
        subst hPI
        refine wpAny_pyIter_list hl1 (wpAny_bind (wpAny_runValue ?_))
        have lS : l < s.heap.objs.size := Heap.lt_size hol
        have zS : (s.heap.push (sO w)).objs.size = s.heap.objs.size + 1 := Heap.size_push ..
        refine fill_n ((Walks.list (A := A.in1.in1.in1) (by simp [hh]) _ l (by rw [zS]; exact Nat.ne_of_lt (Nat.lt_succ_of_lt lS)) items).toS) s.heap.objs.size (by
            rw [zS]
            simp only [List.mem_cons, List.mem_singleton, List.not_mem_nil, or_false, not_or]
            exact ⟨Nat.ne_of_lt (Nat.lt_succ_self _), Nat.ne_of_gt lS⟩) ks isz few (refs_at hit) s.heap hk (beyond (Nat.le_refl _)) (fun b hb => beyond (by
            rw [List.mem_singleton.mp hb, zS]
            exact Nat.le_succ _)) (by simpa using hu) (items.size - 0) 0 _ (by omega) (Nat.zero_le _) ⟨⟨_, Heap.get?_push_size _ rfl, rfl, rfl⟩, (hl1.push _)⟩ (fun b o e => Heap.get?_push_of_some _ (Heap.get?_push_of_some _ e)) ?a1 ?a2
        case a1 => exact ⟨[], #[], 0, _, SN.new (Heap.get?_push_of_some _ hS), ⟨fun p h => (by cases h), fun p h => (by simp at h), Nat.le_refl _⟩⟩
        case a2 =>
          intro s' L es ep t hm hS' g' hkp
          obtain ⟨h', g2, d', tk', os'⟩ := s'
          have eg : g2 = s.gens := hm.gens
          have ed : d' = s.drawn := hm.drawn
          have eo : os' = s.os := hm.os
          subst eg; subst ed; subst eo
          show wpAny _ _ _ _ _ _
          refine wpAny_pure ?_
          show wpAny _ _ (ret Value.none) _ _ _
          rw [isz] at g'
          exact wpAny_pure ⟨rfl, h', tk', L, es, ep, t, rfl, hS', g', hkp⟩
      · cases r₂ with
        | error e => exact hr₂
        | ok fl₂ =>
          cases fl₂ with
          | ret r =>
            obtain ⟨rfl, h', tk, L, es, ep, t, rfl, hS', g', hk'⟩ := hr₂
            repeat (any_goals (first | assumption | wp_step))
            exact q _ _ _ _ _ _ hS' g' hk'
          | _ => exact hr₂.elim
    | _ => exact hr.elim
end
end NS

set_option Elab.async false
set_option linter.all false
set_option maxRecDepth 100000
set_option maxHeartbeats 2000000
namespace T83
open PySem PySem.Spec PyProof.Rows L2 NS
/-! ### choices as data, as keys -/
abbrev Prt : Type := List (Int × Int)
abbrev Chc : Type := Int × Prt
def dQ (q : Int × Int) : PyData := .tuple [.int q.1, .int q.2]
def dPr (ps : Prt) : PyData := .tuple (ps.map dQ)
def dC (c : Chc) : PyData := .tuple [.int c.1, dPr c.2]
def kQ (q : Int × Int) : NestedKey := .tup [.num q.1, .num q.2]
def kC (c : Chc) : NestedKey := .tup [.num c.1, .tup (c.2.map kQ)]
theorem kQ_inj : ∀ {p q : Int × Int}, kQ p = kQ q → p = q := fun {p q} h => by
  unfold kQ at h
  simp only [NestedKey.tup.injEq, List.cons.injEq, NestedKey.num.injEq, and_true] at h
  exact Prod.ext h.1 h.2
theorem kQs_inj : ∀ {ps qs : Prt}, ps.map kQ = qs.map kQ → ps = qs
  | [], [], _ => rfl
  | [], _ :: _, h => by simp at h
  | _ :: _, [], h => by simp at h
  | p :: ps, q :: qs, h => by
    simp only [List.map_cons, List.cons.injEq] at h
    rw [kQ_inj h.1, kQs_inj h.2]
theorem kC_inj {c d : Chc} (h : kC c = kC d) : c = d := by
  unfold kC at h
  simp only [NestedKey.tup.injEq, List.cons.injEq, NestedKey.num.injEq, and_true] at h
  exact Prod.ext h.1 (kQs_inj h.2)
theorem kQ_dep (q : Int × Int) : (kQ q).depth = 1 := by simp [kQ, NestedKey.depth, NestedKey.depthAll]
theorem kQs_dep : ∀ ps : Prt, NestedKey.depthAll (ps.map kQ) ≤ 1
  | [] => by simp [NestedKey.depthAll]
  | p :: ps => by
    have := kQs_dep ps
    simp only [List.map_cons, NestedKey.depthAll, kQ_dep]
    omega
theorem kC_dep (c : Chc) : (kC c).depth ≤ 8 := by
  have := kQs_dep c.2
  simp only [kC, NestedKey.depth, NestedKey.depthAll]
  omega
theorem kQs_nu : ∀ ps : Prt, nuAll (ps.map kQ) = true
  | [] => rfl
  | p :: ps => by
    simp only [List.map_cons, nuAll, kQ, nu, Bool.true_and]
    exact kQs_nu ps
theorem kC_nu (c : Chc) : nu (kC c) = true := by
  simp only [kC, nu, nuAll, Bool.true_and, Bool.and_true]
  exact kQs_nu c.2
theorem dQs_dep : ∀ ps : Prt, PyData.depthAll (ps.map dQ) ≤ 1
  | [] => by simp [PyData.depthAll]
  | p :: ps => by
    have := dQs_dep ps
    have e : (dQ p).depth = 1 := by simp [dQ, PyData.depth, PyData.depthAll]
    simp only [List.map_cons, PyData.depthAll, e]
    omega
theorem dC_dep (c : Chc) : (dC c).depth ≤ 3 := by
  have := dQs_dep c.2
  simp only [dC, dPr, PyData.depth, PyData.depthAll]
  omega
theorem alike_dQs : ∀ ps qs : Prt, PySem.W.alikeAll (ps.map dQ) (qs.map dQ) = true
  | [], _ => by simp [PySem.W.alikeAll]
  | _ :: _, [] => by simp [PySem.W.alikeAll]
  | p :: ps, q :: qs => by
    simp only [List.map_cons, PySem.W.alikeAll, Bool.and_eq_true]
    exact ⟨by simp [dQ, PySem.W.alike, PySem.W.alikeAll], alike_dQs ps qs⟩
theorem alike_dC (c d : Chc) : PySem.W.alike (dC c) (dC d) = true := by
  simp only [dC, dPr, PySem.W.alike, PySem.W.alikeAll, Bool.true_and, Bool.and_true]
  exact alike_dQs c.2 d.2
section
variable {X : Cx} {pins : List (Addr × Obj)} {σ : L2.St} {H : Hp} {s : Shared}
theorem nest_tup (I : Inv X pins σ H s) {a : Addr} {xs : List V} (h : Rd H a (.tup xs)) : ∃ (its : List Value) (o : Obj) (vs : Array Value) (n : Nat), Vals xs its ∧ s.heap.get? a = some o ∧ o.cls = .type "tuple" ∧ o.data = .seq vs n ∧ vs.toList = its := by
  obtain ⟨its, r, ⟨o, ho, hc, n, hd⟩, _⟩ := I.tuple (.inl h : SqT X.K H a xs)
  exact ⟨its, o, _, n, r, ho, hc, hd, rfl⟩
theorem nest_Q (I : Inv X pins σ H s) {q : Int × Int} {v : V} {u : Value} (h : Tp H v (dQ q)) (r : RelV v u) : NestedIs s.heap (kQ q) u := by
  cases h with
  | prt _ _ n => exact absurd (show false = true from n) (by decide)
  | @tup a xs _ h k _ =>
    cases r
    obtain ⟨its, o, vs, n, rv, ho, hc, hd, e⟩ := nest_tup I (.inl h)
    refine .tup ho hc hd ?_
    rw [e]
    cases k with
    | cons k1 k =>
      cases k with
      | cons k2 k =>
        cases k
        cases k1
        cases k2
        cases rv with
        | cons r1 rv =>
          cases rv with
          | cons r2 rv =>
            cases rv
            obtain ⟨t1, rfl⟩ := r1
            obtain ⟨t2, rfl⟩ := r2
            exact .cons (.int _ _) (.cons (.int _ _) .nil)
theorem nest_Qs (I : Inv X pins σ H s) : ∀ {ps : Prt} {vs : List V} {us : List Value}, TpAll H vs (ps.map dQ) → Vals vs us → NestedAll s.heap (ps.map kQ) us
  | [], _, _, k, r => by
    cases k
    cases r
    exact .nil
  | p :: ps, _, _, k, r => by
    cases k with
    | cons k1 k2 =>
      cases r with
      | cons r1 r2 => exact .cons (nest_Q I k1 r1) (nest_Qs I k2 r2)
theorem nest_C (I : Inv X pins σ H s) {c : Chc} {a : Addr} (h : Tp H (.ref a) (dC c)) : Kn s.heap (kC c) a := by
  refine ⟨?_, kC_dep c, kC_nu c⟩
  cases h with
  | prt _ _ n => exact absurd (show false = true from n) (by decide)
  | @tup _ xs _ h k _ =>
    obtain ⟨its, o, vs, n, rv, ho, hc, hd, e⟩ := nest_tup I (.inl h)
    refine .tup ho hc hd ?_
    rw [e]
    cases k with
    | cons k1 k =>
      cases k with
      | cons k2 k =>
        cases k
        cases k1
        cases rv with
        | cons r1 rv =>
          cases rv with
          | cons r2 rv =>
            cases rv
            obtain ⟨t1, rfl⟩ := r1
            refine .cons (.int _ _) (.cons ?_ .nil)
            cases k2 with
            | @tup b ys _ h2 k2 _ =>
              cases r2
              obtain ⟨its2, o2, vs2, n2, rv2, ho2, hc2, hd2, e2⟩ := nest_tup I (.inl h2)
              refine .tup ho2 hc2 hd2 ?_
              rw [e2]
              exact nest_Qs I k2 rv2
            | @prt b ys _ h2 k2 _ =>
              cases r2
              obtain ⟨its2, o2, vs2, n2, rv2, ho2, hc2, hd2, e2⟩ := nest_tup I h2.rd
              refine .tup ho2 hc2 hd2 ?_
              rw [e2]
              exact nest_Qs I k2 rv2
end
/-! ### sets of a few choices -/
abbrev KC : Type := Addr × Chc
def itm (L : List KC) : List Itm := L.map fun p => (p.1, kC p.2)
structure S0 (w : World) (h : Heap) (a : Addr) (L : List KC) : Prop where
  ex : ∃ (es : Array (Int × Value)) (ep : Nat) (t : SetTable), (∃ o, h.get? a = some o ∧ o.ExactSet ∧ o.data = .set es ep t) ∧ es.toList = tbl w (itm L) ∧ TabOk t (hss w (itm L)) ∧ ((itm L).map (·.2)).Nodup ∧ t.plain = true ∧ (w.params.followText "set-order" = true ∨ t.led = true) ∧ t.mask = 7 ∧ (itm L).length ≤ 4
def SetC (w : World) (a : Addr) (L : List KC) : HO := .ext fun h => S0 w h a L
theorem setC_new {P : Program} {w : World} {H : Hp} {h : Heap} {a : Addr} {L : List KC} (R : S0 w h a L) : ObjOk P w H h a (SetC w a L) := by
  have ⟨es, ep, t, ⟨o, ho, r⟩, q⟩ := R.ex
  refine ⟨R, ⟨o, ho⟩, fun h1 h2 p k => ?_⟩
  have ⟨es', ep', t', ⟨o', ho', r'⟩, q'⟩ := S0.ex p
  exact ⟨es', ep', t', ⟨o', k o' ho', r'⟩, q'⟩
theorem S0.full {w : World} {h : Heap} {a : Addr} {L : List KC} (R : S0 w h a L) (hm : ∀ p ∈ L, Kn h (kC p.2) p.1) : ∃ es ep t, SN w h a (itm L) es ep t := by
  obtain ⟨es, ep, t, h1, h2, h3, h4, h5, h6, h7, h8⟩ := R.ex
  refine ⟨es, ep, t, h1, h2, h3, h4, fun p hp => ?_, h5, h6, h7, h8⟩
  obtain ⟨q, hq, rfl⟩ := List.mem_map.mp hp
  exact hm q hq
/-- ks: where the choices stand, what they are -/
def TC (H : Hp) (ks : List KC) : Prop := ∀ p ∈ ks, Tp H (.ref p.1) (dC p.2)
abbrev rf (ks : List KC) : List V := ks.map fun p => V.ref p.1
theorem rf_vals : ∀ ks : List KC, Vals (rf ks) (ks.map fun p => Value.ref p.1)
  | [] => .nil
  | _ :: ks => .cons rfl (rf_vals ks)
theorem rf_of : ∀ {ks : List KC} {us : List Value}, Vals (rf ks) us → us = ks.map fun p => Value.ref p.1
  | [], _, .nil => rfl
  | p :: ks, _, .cons r t => by
    cases r
    rw [rf_of t]
    rfl
/-- a set's rows are some of ks -/
theorem itm_back : ∀ (L : List Itm) (ks : List KC), (∀ p ∈ L, p ∈ itm ks) → ∃ L', L = itm L' ∧ ∀ p ∈ L', p ∈ ks
  | [], _, _ => ⟨[], rfl, fun p h => by cases h⟩
  | p :: L, ks, h => by
    obtain ⟨q, hq, e⟩ := List.mem_map.mp (h p List.mem_cons_self)
    obtain ⟨L', e', m⟩ := itm_back L ks fun r hr => h r (List.mem_cons_of_mem _ hr)
    exact ⟨q :: L', by rw [e', ← e]; rfl, fun r hr => (List.mem_cons.mp hr).elim (fun z => z ▸ hq) (m r)⟩
section
variable {X : Cx}
/-- set(xs) -/
def rSetC (K : PySem.W.Frag) (w : World) : List V → Hp → VK → Prop := fun xs H Q => ∃ (l : Addr) (ks : List KC), xs = [V.ref l] ∧ SqL K H l (rf ks) ∧ TC H ks ∧ ks.length ≤ 4 ∧
  ∀ a L, H a = none → (∀ p ∈ L, p ∈ ks) → (∀ p ∈ ks, p.2 ∈ L.map (·.2)) → (L.map (·.2)).Nodup → Q (.ref a) (upd H a (SetC w a L))
theorem cr_setC (hc : X.calm = true) (hu : X.A.units + 64 < cLine) : CallR X (.type "set") (rSetC X.K X.w) := by
  intro pins s σ H xs us Q I r h
  obtain ⟨l, ks, rfl, hl, hk, hf, q⟩ := h
  rw [Vals.ref1 r]
  obtain ⟨its, rv, pl, hz⟩ := I.list hl
  have hn : H s.heap.objs.size = none := I.hok.fresh (Nat.le_refl _)
  refine call_set_n (P := X.prog) (w := X.w) (itm ks) (I.ok.hd hc) pl.isList (by rw [rf_of rv]; simp [itm, Function.comp_def]) (fun p hp => ?_) (by unfold itm; rw [List.length_map]; exact hf) (by omega) fun h' tk L es ep t R g k => ?_
  · obtain ⟨p0, m0, rfl⟩ := List.mem_map.mp hp
    exact nest_C I (hk p0 m0)
  · obtain ⟨L', rfl, m'⟩ := itm_back L ks fun p hp => List.mem_of_mem_take (g.sub p hp)
    refine ⟨.ref s.heap.objs.size, upd H s.heap.objs.size (SetC X.w s.heap.objs.size L'), I.laid (t' := tk) k (Nat.le_refl _) (setC_new ⟨es, ep, t, R.ob, R.rows, R.tab, R.nd, R.plain, R.led, R.m7, R.few⟩), rfl, q _ L' hn m' (fun p hp => ?_) ?_⟩
    · have h2 := g.all (p.1, kC p.2) (by rw [List.take_length]; exact List.mem_map.mpr ⟨p, hp, rfl⟩)
      obtain ⟨r1, hr1, e1⟩ := List.mem_map.mp h2
      obtain ⟨r2, hr2, e2⟩ := List.mem_map.mp hr1
      rw [← e2] at e1
      exact List.mem_map.mpr ⟨r2, hr2, kC_inj e1⟩
    · have nd := R.nd
      unfold itm at nd
      rw [List.map_map] at nd
      refine List.pairwise_map.mpr (List.Pairwise.imp (fun {p q} h e => h ?_) (List.pairwise_map.mp nd))
      show kC p.2 = kC q.2
      rw [e]
/-- len(set) -/
def rLenC (w : World) : List V → Hp → VK → Prop := fun xs H Q => ∃ (a : Addr) (L : List KC), xs = [V.ref a] ∧ H a = some (SetC w a L) ∧ TC H L ∧ Q (.int L.length) H
theorem cr_lenC : CallR X (.builtin "len") (rLenC X.w) := by
  intro pins s σ H xs us Q I r h
  obtain ⟨a, L, rfl, ha, hk, q⟩ := h
  rw [Vals.ref1 r]
  have R0 : S0 X.w s.heap a L := (I.hok a _ ha).1
  obtain ⟨es, ep, t, R⟩ := R0.full fun p hp => nest_C I (hk p hp)
  obtain ⟨o, ho, hex, hd⟩ := R.ob
  have hn : es.size = L.length := by
    rw [R.len]
    exact List.length_map _
  have few : (itm L).length ≤ 4 := R.few
  have few2 : L.length ≤ 4 := by
    rw [← show (itm L).length = L.length from List.length_map _]
    exact few
  exact call_len_set ho hex hd R.fit (by omega) ⟨.int L.length, H, I.tok _, ⟨_, by rw [hn]⟩, q⟩
end
end T83

set_option Elab.async false
set_option linter.all false
set_option maxRecDepth 100000
set_option maxHeartbeats 2000000
namespace T83
open PySem PySem.Spec PyProof.Rows L2 NS
open PySem.W (EachIs dataLe AllAlike Sortable)
/-- the order of choices -/
def leC (p q : KC) : Bool := dataLe false (fun p : KC => dC p.2) p q
def srt (ks : List KC) : List KC := ks.mergeSort (dataLe false fun p : KC => dC p.2)
theorem srt_perm (ks : List KC) : (srt ks).Perm ks := List.mergeSort_perm ks _
theorem each_refs : ∀ ks : List KC, EachIs (fun (v : Value) (p : KC) => v = .ref p.1) (ks.map fun p => Value.ref p.1) ks
  | [] => .nil
  | p :: ks => .cons rfl (each_refs ks)
theorem refs_each : ∀ {us : List Value} {ks : List KC}, EachIs (fun (v : Value) (p : KC) => v = .ref p.1) us ks → us = ks.map fun p => Value.ref p.1
  | _, _, .nil => rfl
  | _, _, .cons h t => by
    rw [h, refs_each t]
    rfl
theorem each_all {R : Value → KC → Prop} : ∀ ks : List KC, (∀ p ∈ ks, R (.ref p.1) p) → EachIs R (ks.map fun p => Value.ref p.1) ks
  | [], _ => .nil
  | p :: ks, h => .cons (h p List.mem_cons_self) (each_all ks fun q hq => h q (List.mem_cons_of_mem _ hq))
theorem alike_all (ks : List KC) : AllAlike (ks.map fun p => dC p.2) := AllAlike.of fun b b' => alike_dC b.2 b'.2
theorem sort_all (ks : List KC) : Sortable (ks.map fun p => dC p.2) := Sortable.tuples fun b => ⟨_, _, rfl⟩
theorem un1 {A : Around} {n : Nat} (hu : A.units + 64 < cLine) (h : n ≤ 3) : A.in1.units + 1 + n < cLine := by
  have e : A.in1.units ≤ A.units + 1 := by simp
  omega
theorem rd_ints {h : Heap} {vs : List Value} {i j : Int} {as : List Addr} (r : ReadsAll h vs [.int i, .int j] as) : as = [] := by
  cases r with
  | cons r1 r2 =>
    cases r1
    cases r2 with
    | cons r1 r2 =>
      cases r1
      cases r2
      rfl
theorem rd_Qs {h : Heap} : ∀ {ps : Prt} {vs : List Value} {as : List Addr}, ReadsAll h vs (ps.map dQ) as → as = []
  | [], _, _, r => by
    cases r
    rfl
  | p :: ps, _, _, r => by
    cases r with
    | cons r1 r2 =>
      rw [rd_Qs r2]
      cases r1 with
      | tuple _ _ _ r => rw [rd_ints r] <;> rfl
theorem rd_pr {h : Heap} {ps : Prt} {v : Value} {as : List Addr} (r : Reads h v (dPr ps) as) : as = [] := by
  cases r with
  | tuple _ _ _ r => exact rd_Qs r
theorem rd_two {h : Heap} {c : Chc} {vs : List Value} {as : List Addr} (r : ReadsAll h vs [.int c.1, dPr c.2] as) : as = [] := by
  cases r with
  | cons r1 r2 =>
    cases r1
    cases r2 with
    | cons r1 r2 =>
      cases r2
      rw [rd_pr r1] <;> rfl
theorem rd_C {h : Heap} {c : Chc} {v : Value} {as : List Addr} (r : Reads h v (dC c) as) : as = [] := by
  cases r with
  | tuple _ _ _ r => exact rd_two r
section
variable {X : Cx} {pins : List (Addr × Obj)} {σ : L2.St} {H : Hp} {s : Shared}
theorem reads_C (I : Inv X pins σ H s) {ks : List KC} (hk : TC H ks) : ∀ p ∈ ks, ∃ as, Reads s.heap (.ref p.1) (dC p.2) as := fun p hp => Dp.reads I _ _ _ (hk p hp).dp rfl
/-- sorted(xs), xs a list of choices -/
def rSortC (K : PySem.W.Frag) : List V → Hp → VK → Prop := fun xs H Q => ∃ (l : Addr) (ks : List KC), xs = [V.ref l] ∧ SqL K H l (rf ks) ∧ TC H ks ∧ ∀ p, H p = none → Q (.ref p) (upd H p (.lst (rf (srt ks))))
theorem cr_sortC (hu : X.A.units + 64 < cLine) : CallR X (.builtin "sorted") (rSortC X.K) := by
  intro pins s σ H xs us Q I r h
  obtain ⟨l, ks, rfl, hl, hk, q⟩ := h
  rw [Vals.ref1 r]
  obtain ⟨its, rv, pl, hz⟩ := I.list hl
  have ei := rf_of rv
  have hz2 : ks.length ≤ sizeLine := by
    rw [← show (rf ks).length = ks.length from List.length_map _]
    exact hz
  refine PySem.W.sorted_data (vs := its) (bs := ks) (enc := fun p => dC p.2) (R := fun v p => v = .ref p.1) pl.isList (by rw [ei]; exact each_refs ks) (by rw [ei]; exact each_all ks (reads_C I hk)) (alike_all ks) (sort_all ks) hz2 (fun b _ => by have := dC_dep b.2; omega) fun out hlo ho => ?_
  have eo := refs_each ho
  obtain ⟨ep, he⟩ := PyProof.Rows.sortedAll_at s.heap its out.toArray
  have hlen : (rf (srt ks)).length ≤ sizeLine := by
    rw [show (rf (srt ks)).length = (srt ks).length from List.length_map _, (srt_perm ks).length_eq]
    exact hz2
  exact ⟨.ref _, upd H (s.heap.objs.size + 1) (.lst (rf (srt ks))), I.laid (t' := s.toks) (fun _ _ => PyProof.Rows.sortedAll_old) (Nat.le_succ _) ⟨hlen, out, ep, by rw [eo]; exact rf_vals _, he⟩, rfl, q _ (I.hok.fresh (Nat.le_succ _))⟩
/-- sorted(set) -/
def rSortS (w : World) : List V → Hp → VK → Prop := fun xs H Q => ∃ (a : Addr) (L : List KC), xs = [V.ref a] ∧ H a = some (SetC w a L) ∧ TC H L ∧ ∀ p L1, H p = none → L1.Perm L → Q (.ref p) (upd H p (.lst (rf (srt L1))))
theorem perm_refs {L : List KC} : ∀ {vs : List Value}, (∀ v ∈ vs, ∃ q ∈ L, v = Value.ref q.1) → ∃ L1 : List KC, vs = L1.map (fun q => Value.ref q.1) ∧ ∀ q ∈ L1, q ∈ L
  | [], _ => ⟨[], rfl, fun q hq => by cases hq⟩
  | v :: vs, h => by
    obtain ⟨q, hq, e⟩ := h v List.mem_cons_self
    obtain ⟨L1, e1, hs⟩ := perm_refs (vs := vs) fun u hu => h u (List.mem_cons_of_mem _ hu)
    exact ⟨q :: L1, by rw [List.map_cons, e, e1], fun r hr => (List.mem_cons.mp hr).elim (fun z => z ▸ hq) (hs r)⟩
theorem perm_back {L L1 : List KC} (nd : (L.map (·.2)).Nodup) (one : ∀ q ∈ L, ∀ r ∈ L, q.1 = r.1 → q = r) (hs : ∀ q ∈ L1, q ∈ L) (pm : (L1.map fun q => Value.ref q.1).Perm (L.map fun q => Value.ref q.1)) : L1.Perm L := by
  have nL : L.Nodup := nodup_of_map nd
  have nR : (L.map fun q => Value.ref q.1).Nodup := List.pairwise_map.mpr (List.Pairwise.imp_of_mem (fun {q r} hq hr hne e => by
    injection e with e
    exact hne (one q hq r hr e)) nL)
  have n1 : L1.Nodup := nodup_of_map (pm.nodup_iff.mpr nR)
  refine (List.perm_ext_iff_of_nodup n1 nL).mpr fun q => ⟨hs q, fun hq => ?_⟩
  obtain ⟨r, hr, e⟩ := List.mem_map.mp (pm.mem_iff.mpr (List.mem_map.mpr ⟨q, hq, rfl⟩))
  injection e with e
  rw [← one r (hs r hr) q hq e]
  exact hr
end
section
variable {P : Program} {w : World} {A : Around} {E : Value → Shared → Prop} {s : Shared}
theorem sorted_n {a : Addr} {L : List KC} {es : Array (Int × Value)} {ep : Nat} {t : SetTable} {Q : Value → Shared → Prop} (R : SN w s.heap a (itm L) es ep t) (hh : A.handled = none) (hu : A.units + 64 < cLine) (rd : ∀ p ∈ L, ∃ as, Reads s.heap (.ref p.1) (dC p.2) as)
    (q : ∀ s' p (out : List Value) (c : Nat) (L1 : List KC), (∀ b o, s.heap.get? b = some o → s'.heap.get? b = some o) → s'.gens = s.gens → s'.os = s.os → s.heap.objs.size ≤ p → s'.heap.get? p = some (seqObj "list" out.toArray c) → out = (srt L1).map (fun q => Value.ref q.1) → L1.Perm L → Q (.ref p) s') :
    wpAny (model P w) A (call (.builtin "sorted") [.ref a]) Q E s := by
  obtain ⟨o, ho, hex, hd⟩ := R.ob
  have few : (itm L).length ≤ 4 := R.few
  have lL : (itm L).length = L.length := List.length_map _
  have hsz : es.size = L.length := R.len.trans lL
  have nd : (L.map (·.2)).Nodup := by
    have nd := R.nd
    unfold itm at nd
    rw [List.map_map] at nd
    exact List.pairwise_map.mpr (List.Pairwise.imp (fun {p q} h e => h (show kC p.2 = kC q.2 by rw [e])) (List.pairwise_map.mp nd))
  have one : ∀ q ∈ L, ∀ r ∈ L, q.1 = r.1 → q = r := fun q hq r hr e => by
    have a1 := R.mem (q.1, kC q.2) (List.mem_map.mpr ⟨q, hq, rfl⟩)
    have a2 := R.mem (r.1, kC r.2) (List.mem_map.mpr ⟨r, hr, rfl⟩)
    dsimp only at a1 a2
    rw [e] at a1
    exact Prod.ext e (kC_inj (a1.inj a2))
  refine Calls.call_function_entry kind_sorted plain_sorted entry_sorted (args_sorted1 _) ?_
  unfold Builtin.«sorted»
  refine wpAny_bind (m := checkCount "sorted" 1 1 _) (wpAny_pure ?_)
  refine wpAny_bind (collect_set (A := A.in1) hh ⟨o, ho, hex.1, hd⟩ R.fit (by unfold scanBound; omega) R.tab.ris R.led fun s1 vs k1 hz g1 o1 pm => ?_)
  have hes : es.toList.map (·.2) = L.map fun q => Value.ref q.1 := by
    rw [R.rows]
    simp [tbl, itm, Function.comp_def]
  rw [hes] at pm
  obtain ⟨L1, rfl, sub⟩ := perm_refs (L := L) (vs := vs) fun v hv => by
    obtain ⟨q, hq, e⟩ := List.mem_map.mp (pm.mem_iff.mp hv)
    exact ⟨q, hq, e.symm⟩
  have pL := perm_back nd one sub pm
  have lz : L1.length ≤ sizeLine := by
    rw [pL.length_eq, sizeLine_eq]
    omega
  refine wpAny_bind (wpAny_newList ?_ (by rw [List.length_map]; exact lz))
  have k2 : ∀ b u, s.heap.get? b = some u → (s1.heap.push (seqObj "list" (L1.map fun q => Value.ref q.1).toArray 0)).get? b = some u := fun b u e => Heap.get?_push_of_some _ (k1 b u e)
  have hoL : (s1.heap.push (seqObj "list" (L1.map fun q => Value.ref q.1).toArray 0)).get? s1.heap.objs.size = some (seqObj "list" (L1.map fun q => Value.ref q.1).toArray 0) := Heap.get?_push_size _ rfl
  have rd1 : ∀ p ∈ L1, ∃ as, Reads (s1.heap.push (seqObj "list" (L1.map fun q => Value.ref q.1).toArray 0)) (.ref p.1) (dC p.2) as ∧ s1.heap.objs.size ∉ as := fun p hp => by
    obtain ⟨as, r⟩ := rd p (sub p hp)
    exact ⟨as, PyProof.Rows.Reads.keeps k2 r, by rw [rd_C r]; simp⟩
  refine wpAny_bind (wpAny_holding (PySem.W.list_sort_data (s := { s1 with heap := s1.heap.push (seqObj "list" (L1.map fun q => Value.ref q.1).toArray 0) }) (bs := L1) (enc := fun p => dC p.2) (R := fun v p => v = .ref p.1) hoL (each_refs L1) (each_all L1 rd1) (alike_all L1) (sort_all L1) lz (fun b _ => un1 hu (dC_dep b.2)) fun out hlo hout => ?_))
  obtain ⟨c, hcc⟩ := sortedHeap_at (vs := L1.map fun q => Value.ref q.1) (out := out.toArray) hoL
  refine wpAny_pure ⟨_, rfl, q _ s1.heap.objs.size out c L1 (fun b u e => ?_) g1 o1 hz hcc (refs_each hout) pL⟩
  have e1 := k1 b u e
  have lt := Heap.lt_size e1
  show (sortedHeap (s1.heap.push (seqObj "list" (L1.map fun q => Value.ref q.1).toArray 0)) s1.heap.objs.size (L1.map fun q => Value.ref q.1) out.toArray).get? b = some u
  rw [sortedHeap_old (Nat.ne_of_lt lt) (by rw [size_push']; exact Nat.lt_succ_of_lt lt)]
  exact Heap.get?_push_of_some _ e1
end
section
variable {X : Cx}
theorem cr_sortS (hc : X.calm = true) (hu : X.A.units + 64 < cLine) : CallR X (.builtin "sorted") (rSortS X.w) := by
  intro pins s σ H xs us Q I r h
  obtain ⟨a, L, rfl, ha, hk, q⟩ := h
  rw [Vals.ref1 r]
  have R0 : S0 X.w s.heap a L := (I.hok a _ ha).1
  obtain ⟨es, ep, t, R⟩ := R0.full fun p hp => nest_C I (hk p hp)
  refine sorted_n R (I.ok.hd hc) hu (reads_C I hk) fun s' p out c L1 k g o hp hg hout pm => ?_
  have few : (itm L).length ≤ 4 := R.few
  have lL : (itm L).length = L.length := List.length_map _
  have hlen : (rf (srt L1)).length ≤ sizeLine := by
    rw [show (rf (srt L1)).length = (srt L1).length from List.length_map _, (srt_perm L1).length_eq, pm.length_eq, sizeLine_eq]
    omega
  have hn : H p = none := I.hok.fresh hp
  have J : Inv X pins σ (upd H p (.lst (rf (srt L1)))) { s with heap := s'.heap, gens := s'.gens, drawn := s'.drawn, toks := s'.toks } :=
    I.call (ch := []) (Un.laid k hp hn) (I.hok.laid k hp ⟨hlen, out, c, by rw [hout]; exact rf_vals _, hg⟩) (by rw [g]; exact I.bare) (fun b z => absurd z List.not_mem_nil)
  have e : s' = { s with heap := s'.heap, gens := s'.gens, drawn := s'.drawn, toks := s'.toks } := by
    cases s'
    cases s
    cases o
    rfl
  rw [e]
  exact ⟨.ref p, _, J, rfl, q p L1 hn pm⟩
end
end T83

set_option Elab.async false
set_option linter.all false
set_option maxRecDepth 100000
set_option maxHeartbeats 2000000
/-! a lambda handed down through several defs -/
namespace LmB
open PySem PySem.Spec PyProof.Rows L2 LamX
theorem un_deep {fs fs2 : List Addr} {H H1 H2 : Hp} {h h1 h2 : Heap} (a : Un fs [] H H1 h h1) (b : Un fs2 [] H1 H2 h1 h2) (n : ∀ z ∈ fs2, z ∈ fs ∨ h.get? z = none) : Un fs [] H H2 h h2 where
  keep := fun c ob q z hc hx => by
    refine b.keep c ob (a.keep c ob q z hc hx) (a.free c ob q z hx) (fun m => ?_) hx
    rcases n c m with y | y
    · exact hc y
    · rw [q] at y
      cases y
  slot := fun c ob q z hc hx => by
    obtain ⟨sl, e⟩ := a.slot c ob q z hc hx
    obtain ⟨sl2, e2⟩ := b.any e (a.free c ob q z hx) hx
    exact ⟨sl2, e2⟩
  free := fun c ob q z hx => by
    obtain ⟨o', e⟩ := a.there c ob q hx
    exact b.free c o' e (a.free c ob q z hx) hx
  there := fun c ob q hx => by
    obtain ⟨o', e⟩ := a.there c ob q hx
    exact b.there c o' e hx
  tups := fun c xs q => b.tups c xs (a.tups c xs q)
  frzs := fun c o u q => b.frzs c o u (a.frzs c o u q)
  tbls := fun c ps q => by
    obtain ⟨m1, e1⟩ := a.tbls c ps q
    obtain ⟨m2, e2⟩ := b.tbls c _ e1
    exact ⟨m1 ++ m2, by rw [e2, Array.append_assoc]⟩
/-- the lambda at f, made when the heap was s0 (tracked H0): what a call of it does later -/
structure Lmb (P : Program) (w : World) (K : PySem.W.Frag) (mg : Str → Option Value) (base : Heap) (k : Nat) (fs : List Addr) (H0 : Hp) (s0 : Shared) (f c' : Addr) (q : Str) (tl : XK → Hp → VK → Prop) : Prop where
  fn : ∀ (s1 : Shared) (HZ : Hp), Un fs [] H0 HZ s0.heap s1.heap → PySem.W.FnAt f s1.heap
  run : ∀ (A : Around) (outer : List Env) (s1 : Shared) (HZ : Hp) (Q : VK) (E : XK), Room (k + 1) A → Env0 P w K mg base A outer s1 HZ → Un fs [] H0 HZ s0.heap s1.heap → HZ c' = some (CodeO c' q) → tl E HZ Q → codeAny (model P w) A (.call (.ref f) ⟨[], []⟩) (CR (L2.CX P w) outer P w HZ s1 Q E) s1
section
variable {X : Cx} {pins : List (Addr × Obj)} {σ : L2.St} {H : Hp} {s : Shared}
theorem lmb_of {f c' : Addr} {pm ctv : Value} {params : Arguments} {body : Expr} {scope : Scope} {k : Nat} {t : XK → TE} (I : Inv X pins σ H s) (L : LamS X.env.scope scope)
    (hf : s.heap.get? f = some (PySem.W.kla_obj "<lambda>" (X.env.qual ++ "<lambda>") params body scope (cloFrom X.env.cells scope.names []) pm c' ctv)) (hfn : H f = none) (hfr : f ∉ frs X.stack)
    (hbind : bindArgs (PySem.W.kla_fn "<lambda>" (X.env.qual ++ "<lambda>") params body scope (cloFrom X.env.cells scope.names []) pm (.ref c') ctv) ⟨[], []⟩ = pure [])
    (hbody : ∀ (A : Around) (outer : List Env) (s : Shared) (H : Hp) (E : XK), Room k (A.deeper (lamEnv X scope s.heap.objs.size f c')) → PE (lamCx X A outer s H E scope f c') body (t E)) :
    Lmb X.prog X.w X.K X.mg X.base k (frs X.stack) H s f c' (X.env.qual ++ "<lambda>") fun E HZ Q => t E σ HZ Q := by
  have at_ : ∀ {s1 : Shared} {HZ : Hp}, Un (frs X.stack) [] H HZ s.heap s1.heap → s1.heap.get? f = some (PySem.W.kla_obj "<lambda>" (X.env.qual ++ "<lambda>") params body scope (cloFrom X.env.cells scope.names []) pm c' ctv) := fun {s1 HZ} un => un.keep f _ hf hfn hfr (fun z => nomatch (show f ∈ ([] : List Addr) from z))
  refine ⟨fun s1 HZ un => ⟨_, _, _, _, at_ un⟩, fun A outer s1 HZ Q E hr e0 un hc ht => ?_⟩
  obtain ⟨⟨oc, vs, tk, hoc, hdc, hvc⟩, _, _⟩ := e0.hok c' _ hc
  have lim : s1.heap.NoLimit := e0.mod.nolimit.keeps fun b o e => (e0.bs b o e).1
  refine PySem.W.kla_callFunE hr.depth (at_ un) rfl L.co L.gen rfl ⟨c', oc, vs, tk, rfl, hoc, hdc, hvc⟩ ?_
  rw [hbind]
  refine wpAny_pure (wpAny_newFunctionEnv (fun y hy => (L.own y hy).2) (fun y hy => absurd hy (by simp)) (fun h₁ hns hsb => ⟨lim.fresh _ hsb, ?_⟩) L.kind)
  show codeAny _ _ (.expr body (lamEnv X scope s1.heap.objs.size f c')) _ _
  have kp : ∀ b o, s1.heap.get? b = some o → h₁.get? b = some o := fun b o e => hsb.extBut b o (Nat.ne_of_lt (Heap.lt_size e)) (Heap.get?_push_of_some _ e)
  have J : Inv (lamCx X A outer s1 HZ E scope f c') [] σ HZ { s1 with heap := h₁, toks := s1.toks + ([] : List (Str × Value)).length } := lam_start2 I L e0 hr.hd un hns kp
  refine PySem.W.kla_codeExpr (wpAny_mono ((hbody _ _ s1 HZ E (hr.deeper _)).run [] _ _ HZ Q J ht) (fun v s' hq => ?_) fun e s' hq => hq)
  obtain ⟨w', H', J', rv, q⟩ := hq
  exact ⟨w', H', J'.os, J'.bare, J'.base, J'.hok, rv, q⟩
end
section
variable {Z : Cx} {fs : List Addr} {H0 : Hp} {s0 : Shared} {f c' : Addr} {q : Str} {tl : XK → Hp → VK → Prop}
/-- how the running frame lies to the place where the lambda was made -/
structure Link (Z : Cx) (fs : List Addr) (H0 : Hp) (s0 : Shared) : Prop where
  un : Un fs [] H0 Z.H_0 s0.heap Z.s_0.heap
  new : ∀ z ∈ Z.fs, z ∈ fs ∨ s0.heap.get? z = none
  ex : Z.ex = []
/-- a(), a: the slot i, holds the lambda -/
theorem pe_able {k i : Nat} {a : Str} {W : WX} {p1 p2 : Pos} (M : Lmb Z.prog Z.w Z.K Z.mg Z.base k fs H0 s0 f c' q tl) (hr : Room (k + 1) Z.A) (ln : Link Z fs H0 s0) (tk : Takes Z W) (hN : Z.N[i]? = some a) (hv : Vis Z.env.scope a)
    (hd : (a == ("__debug__" : Str)) = false := by decide) (hcd : (a == ("__classdict__" : Str)) = false := by decide) :
    PE Z (.Call (.Name a p1) [] [] p2) (fun σZ HZ Q => ∃ E : XK, (∀ cls d H', E cls d H' → W cls d σZ H') ∧ σZ[i]? = some (some (.ref f)) ∧ HZ c' = some (CodeO c' q) ∧ tl E HZ Q) := by
  refine ⟨fun pinsZ sZ σZ HZ Q IZ h => ?_⟩
  obtain ⟨E, hW, hs, hc, ht⟩ := h
  refine wpAny_Call_Name_kw (thn ((pe_var (pos := p1) (i := i) hN hv hd hcd).run pinsZ sZ σZ HZ (fun v H1 => v = .ref f ∧ H1 = HZ) IZ ⟨.ref f, hs, rfl, rfl⟩) fun u s1 ⟨v, H1, I1, r1, q1⟩ => ?_)
  obtain ⟨ev, eH⟩ := q1
  subst ev
  rw [eH] at I1
  obtain rfl : u = Value.ref f := r1
  have b1 : Un Z.fs [] Z.H_0 HZ Z.s_0.heap s1.heap := by
    have b := I1.base
    rw [ln.ex] at b
    exact b
  have un : Un fs [] H0 HZ s0.heap s1.heap := un_deep ln.un b1 ln.new
  refine PySem.W.callWith_F0 (M.fn s1 HZ un) ?_
  refine wpAny_call (codeAny_mono (M.run Z.A Z.stack s1 HZ Q E hr I1.env0 un hc ht) fun r s' hq => ?_)
  cases r with
  | error e => exact tk e s' (XE.of_call I1 (fun cls d H' h => hW cls d H' h) hq)
  | ok fl =>
    cases fl with
    | ret u => exact I1.after hq
    | next => exact False.elim hq
    | brk => exact False.elim hq
    | cont => exact False.elim hq
end
end LmB

set_option Elab.async false
set_option linter.all false
set_option maxRecDepth 100000
set_option maxHeartbeats 2000000
/-! try with several clauses, some of them 'as n' -/
namespace TryX
open PySem PySem.Spec PyProof.Rows L2
/-- one clause: its class, the slot of its name if it has one, its suite -/
abbrev Cls1 : Type := Value × Option Nat × (Addr → Value → Option Addr → TS)
def endAt (i : Option Nat) (D : Ends) : Ends := match i with
  | none => D
  | some i => { nx := fun σ' H' => D.nx (σ'.set i none) H', rt := D.rt, bk := fun σ' H' => D.bk (σ'.set i none) H', ct := fun σ' H' => D.ct (σ'.set i none) H' }
def putAt (i : Option Nat) (a : Addr) (σ : L2.St) : L2.St := match i with
  | none => σ
  | some i => σ.set i (some (.ref a))
def wMix (K : PySem.W.Frag) (Wo : WX) (D : Ends) : List Cls1 → WX
  | [] => Wo
  | (c, i, ts) :: r => fun cls d σ H => ∃ b, PySem.W.exmOne K cls c = some b ∧ (b = true → ∀ a, H a = none → ts a cls d (endAt i D) (putAt i a σ) H) ∧ (b = false → wMix K Wo D r cls d σ H)
/-- a suite, run while its exception stands -/
def SuiteOk (X : Cx) (ss : List Stmt) (ts : Addr → Value → Option Addr → TS) : Prop := ∀ (a : Addr) (oe : Obj) (cls : Value) (d : Option Addr) (pn : List (Addr × Obj)), Zc cls d oe → (∃ vs, oe.data = .fields vs) → PSs (X.suite a ((a, oe) :: pn)) ss (ts a cls d)
inductive MixOk (X : Cx) : List ExceptHandler → List Cls1 → Prop
  | nil : MixOk X [] []
  | plain {x : Str} {c : Value} {ts : Addr → Value → Option Addr → TS} {b : Stmt} {ss : List Stmt} {p1 p2 : Pos} {hds : List ExceptHandler} {l : List Cls1} (hc : Names X x c) (hsu : SuiteOk X (b :: ss) ts) (r : MixOk X hds l) : MixOk X (.ExceptHandler (some (.Name x p1)) none (b :: ss) p2 :: hds) ((c, none, ts) :: l)
  | as {x n : Str} {i : Nat} {c : Value} {ts : Addr → Value → Option Addr → TS} {b : Stmt} {ss : List Stmt} {p1 p2 : Pos} {hds : List ExceptHandler} {l : List Cls1} (hi : X.N[i]? = some n) (hl : X.env.kindOf n = some .local) (hc : Names X x c) (hsu : SuiteOk X (b :: ss) ts) (r : MixOk X hds l) :
      MixOk X (.ExceptHandler (some (.Name x p1)) (some n) (b :: ss) p2 :: hds) ((c, some i, ts) :: l)
section
variable {X : Cx} {body : List Stmt} {h₀ : ExceptHandler} {hds : List ExceptHandler} {l : List Cls1} {pos : Pos} {tb : WX → TS} {Wo : WX}
theorem ps_try_mix (hs : X.stack = X.env :: X.outer) (hf : X.env.frame = some X.env.locals) (hN : X.N.Nodup) (tk : Takes X Wo)
    (hb : ∀ (W : WX) (pn : List (Addr × Obj)) (xe : Value → Shared → Prop), Takes (X.tr pn xe) W → PassesOwn (model X.prog X.w) X.A X.env xe → PSs (X.tr pn xe) body (tb W)) (hh : MixOk X (h₀ :: hds) l) :
    PS X (.Try body (h₀ :: hds) [] [] pos) (fun D σ H => tb (wMix X.K Wo D l) D σ H) := by
  refine ⟨fun pins s σ H D I h => ?_⟩
  have ok := I.ok
  have hfr : X.A.frames = some (X.env :: X.outer) := by rw [ok.frames, hs]
  refine wpAny_Try_except (wpAny_mono ((hb (wMix X.K Wo D l) (X.pn ++ pins) (fun e s₁ => wpAny (model X.prog X.w) X.A (noteFrame e X.env) (fun _ s₂ => wpAny (model X.prog X.w) X.A (setFlight e none) (fun _ s₃ =>
    wpAny (model X.prog X.w) X.A (handleBy e X.env (h₀ :: hds)) (SP X pins D) X.xe s₃) X.xe s₂) X.xe s₁) (fun u s' xx => ?_) PassesOwn.looking).run [] s σ H D (I.toTry _) h) (fun f s1 hsp => ?_) (fun e s1 he => he))
  · obtain ⟨a, B, sI, pins', σ', H', cls, d, rfl, J', nb, up, sky, na, os, ag, w⟩ := xx
    have J : Inv X pins σ' H' sI := J'.ofTry ok
    have sky' : Sky B (X.env :: X.outer) a (Zc cls d) X.env.locals s'.heap := by
      rw [← hs]
      exact sky
    show wpAny (model X.prog X.w) X.A (noteFrame (.ref a) X.env) _ _ _
    refine Sky.land Zc.steady hfr hf sky' fun h3 fl3 up3 => ?_
    have J3 : Inv X pins σ' H' { s' with heap := h3 } := J.landed nb fl3.1 (up.trans up3) os ag
    obtain ⟨oe3, vs3, he3, hz3, hd3⟩ := fl3.there
    have nfr : a ∉ frs (X.env :: X.outer) := fun hm => by
      obtain ⟨_, o', e', hnf⟩ := fl3.2.2.1.mem hm
      rw [he3] at e'
      cases e'
      exact hnf _ hd3
    have nL : a ≠ X.env.locals := fun z => nfr (List.mem_filterMap.mpr ⟨X.env, List.mem_cons_self, by rw [hf, z]⟩)
    have nF : a ∉ X.fs := fun hm => by
      obtain ⟨e, he, q⟩ := List.mem_filterMap.mp hm
      exact nfr (List.mem_filterMap.mpr ⟨e, List.mem_cons_of_mem _ he, q⟩)
    have S3 := J3.suite he3 hd3 na nL nF
    have LT : PySem.W.Looks (model X.prog X.w) h3 (typeOf (.ref a)) cls := fun A Q E s k q => wpAny_typeOf_ref (k _ _ he3) (by rw [hz3.1]; exact q)
    have tst : ∀ {x : Str} {c : Value} {np : Pos} {Q : Value → Shared → Prop} {E : Value → Shared → Prop}, Names X x c → Q c { s' with heap := h3 } → wpAny (model X.prog X.w) (X.A.mark (some (.ref a))) (eval (.Name x np) X.env) Q E { s' with heap := h3 } := fun {x c np Q E} hc q => by
      obtain ⟨hg, hdbg, hm | ⟨hm, hv, hnn⟩⟩ := hc
      · exact ld_glob (X := X.suite a ((a, oe3) :: (X.pn ++ pins))) S3 hg hm q hdbg
      · exact ld_blt (X := X.suite a ((a, oe3) :: (X.pn ++ pins))) S3 hg hm hv q hnn hdbg
    have go : ∀ {hds' : List ExceptHandler} {l' : List Cls1}, MixOk X hds' l' → wMix X.K Wo D l' cls d σ' H' → wpAny (model X.prog X.w) X.A (handleBy (.ref a) X.env hds') (SP X pins D) X.xe { s' with heap := h3 } := by
      intro hds' l' hk
      induction hk with
      | nil =>
        intro w
        refine wpAny_handleBy_nil ?_
        obtain ⟨k1, k2, k3, oe, vs, T, oT, ts', he, hz, hd, h1, hr⟩ := id fl3
        unfold PySem.passOn
        refine wpAny_bind (wpAny_field he hd h1 ?_)
        rw [if_neg (show ¬ ((Value.ref T == Value.none) = true) from by simp)]
        have fin : wpAny (model X.prog X.w) X.A (setFlight (.ref a) X.env.frame) (fun _ s4 => wpAny (model X.prog X.w) X.A (throw (.ref a) : Sem Flow) (SP X pins D) X.xe s4) X.xe { s' with heap := h3 } := by
          rw [hf]
          refine HandSPX.setFlight_upZ fl3 fun h4 hh4 up4 => wpAny_throw (tk _ _ ?_)
          exact ⟨a, B, sI, pins, σ', H', cls, d, rfl, J, nb, (up.trans up3).trans up4, .inr (.inr (by rw [hs]; exact hh4)), na, os, ag, w⟩
        first
          | exact wpAny_bind (wpAny_pure (wpAny_bind fin))
          | exact wpAny_bind fin
      | plain hc hsu r ih =>
        intro w
        obtain ⟨b, hb1, yes, no⟩ := w
        refine wpAny_handleBy_cons (codeAny_handlers_test ?_) (by intro q; cases q)
        refine tst hc ((PySem.W.exm_one (M := model X.prog X.w) (J3.kIn) LT hb1).here ?_)
        cases b with
        | false =>
          show wpAny _ X.A (handleBy (.ref a) X.env _) _ _ _
          exact ih (no rfl)
        | true =>
          refine codeAny_handlers_suite (HandSPX.lands_againZ fl3 fun h4 fl4 up4 => ?_)
          have J4 : Inv X pins σ' H' { s' with heap := h4 } := J.landed nb fl4.1 ((up.trans up3).trans up4) os ag
          obtain ⟨oe4, vs4, he4, hz4, hd4⟩ := fl4.there
          refine wpAny_mono ((hsu a oe4 cls d (X.pn ++ pins) hz4 ⟨_, hd4⟩).run [] _ _ H' _ (J4.suite he4 hd4 na nL nF) (yes rfl a na)) (fun f s6 hsp => ?_) (fun _ _ z => False.elim z)
          cases f with
          | next =>
            obtain ⟨σ6, H6, S6, q6⟩ := hsp
            exact ⟨_, _, S6.unsuite ok, q6⟩
          | brk =>
            obtain ⟨σ6, H6, S6, q6⟩ := hsp
            exact ⟨_, _, S6.unsuite ok, q6⟩
          | cont =>
            obtain ⟨σ6, H6, S6, q6⟩ := hsp
            exact ⟨_, _, S6.unsuite ok, q6⟩
          | ret u =>
            obtain ⟨v6, σ6, H6, S6, r6, q6⟩ := hsp
            exact ⟨_, _, _, S6.unsuite ok, r6, q6⟩
      | @as x n i c ts b0 ss p1 p2 hds2 l2 hi hl hc hsu r ih =>
        intro w
        obtain ⟨b, hb1, yes, no⟩ := w
        refine wpAny_handleBy_cons (codeAny_handlers_test ?_) (by intro q; cases q)
        refine tst hc ((PySem.W.exm_one (M := model X.prog X.w) (J3.kIn) LT hb1).here ?_)
        cases b with
        | false =>
          show wpAny _ X.A (handleBy (.ref a) X.env _) _ _ _
          exact ih (no rfl)
        | true =>
          refine codeAny_handlers_suite_as (HandSPX.lands_againZ fl3 fun h4 fl4 up4 => ?_)
          have J4 : Inv X pins σ' H' { s' with heap := h4 } := J.landed nb fl4.1 ((up.trans up3).trans up4) os ag
          obtain ⟨oe4, vs4, he4, hz4, hd4⟩ := fl4.there
          refine store_ok (X := X.suite a ((a, oe4) :: (X.pn ++ pins))) (v := .ref a) (J4.suite he4 hd4 na nL nF) hN hi (.inl hl) rfl (fun s5 S5 => ?_) (.inr hl)
          refine wpAny_mono ((hsu a oe4 cls d (X.pn ++ pins) hz4 ⟨_, hd4⟩).run [] s5 _ H' _ S5 (yes rfl a na)) (fun f s6 hsp => ?_) (fun _ _ z => False.elim z)
          have gone : ∀ {σ6 : L2.St} {H6 : Hp} {Q : Shared → Prop}, Inv (X.suite a ((a, oe4) :: (X.pn ++ pins))) [] σ6 H6 s6 → (∀ s7, Inv X pins (σ6.set i none) H6 s7 → Q s7) →
              wpAny (model X.prog X.w) X.A (do bindName X.env n .none; unbindBehindTheSuite X.env n p2) (fun _ s7 => Q s7) X.xe s6 := fun {σ6 H6 Q} S6 hq => gone_ok (S6.unsuite ok) hN hi hl hq
          cases f with
          | next =>
            obtain ⟨σ6, H6, S6, q6⟩ := hsp
            exact gone S6 fun s7 J7 => ⟨_, _, J7, q6⟩
          | brk =>
            obtain ⟨σ6, H6, S6, q6⟩ := hsp
            exact gone S6 fun s7 J7 => ⟨_, _, J7, q6⟩
          | cont =>
            obtain ⟨σ6, H6, S6, q6⟩ := hsp
            exact gone S6 fun s7 J7 => ⟨_, _, J7, q6⟩
          | ret u =>
            obtain ⟨v6, σ6, H6, S6, r6, q6⟩ := hsp
            exact gone S6 fun s7 J7 => ⟨_, _, _, J7, r6, q6⟩
    exact go hh w
  · cases f with
    | next =>
      obtain ⟨σ', H', J', q⟩ := hsp
      exact wpAny_execs_nil ⟨σ', H', J'.ofTry ok, q⟩
    | brk =>
      obtain ⟨σ', H', J', q⟩ := hsp
      exact ⟨σ', H', J'.ofTry ok, q⟩
    | cont =>
      obtain ⟨σ', H', J', q⟩ := hsp
      exact ⟨σ', H', J'.ofTry ok, q⟩
    | ret u =>
      obtain ⟨v, σ', H', J', r, q⟩ := hsp
      exact ⟨v, σ', H', J'.ofTry ok, r, q⟩
end
end TryX

set_option Elab.async false
set_option linter.all false
set_option maxRecDepth 100000
set_option maxHeartbeats 2000000
namespace T83
open PySem PySem.Spec PyProof.Rows L2 LamX LmB TryX
variable {P : Program} {w : World} {K : PySem.W.Frag} {mg : Str → Option Value} {base : Heap}
/-! ### _law_met -/
abbrev sMet : Stmt := top 111
theorem scMet : FnScope ["call", "error"] ["call"] (defScope sMet) := ⟨rfl, rfl, rfl, by decide +kernel, rfl, by decide +kernel, by decide +kernel⟩
/-- a def that is handed a lambda keeps its promise wherever the lambda was made -/
def LamOk (P : Program) (w : World) (K : PySem.W.Frag) (mg : Str → Option Value) (base : Heap) (CX : CXT) (k : Nat) (g : Addr) (fd : FuncData) (n : Str) (sp : (XK → Hp → VK → Prop) → Hp → VK → XK → Prop) : Prop :=
  ∀ (fs : List Addr) (H0 : Hp) (s0 : Shared) (f c' : Addr) (q : Str) (tl : XK → Hp → VK → Prop) (j : Nat), Lmb P w K mg base j fs H0 s0 f c' q tl → ∀ (A : Around) (outer : List Env) (s : Shared) (H : Hp) (args : Args) (Q : VK) (E : XK), Room (j + k) A → Env0 P w K mg base A outer s H → BindsTo s fd args [(n, .ref f)] →
    Un fs [] H0 H s0.heap s.heap → (∀ z ∈ frs outer, z ∈ fs ∨ s0.heap.get? z = none) → H c' = some (CodeO c' q) → sp tl H Q E → codeAny (model P w) A (.call (.ref g) args) (CR CX outer P w H s Q E) s
def spMet (K : PySem.W.Frag) : (XK → Hp → VK → Prop) → Hp → VK → XK → Prop := fun tl H Q E => tl (Wish K Q) H (Told Q) ∧ E = WishO K Q
theorem mix_no {Wo : WX} {D : Ends} {c : Value} {i : Option Nat} {ts : Addr → Value → Option Addr → TS} {r : List Cls1} {cls : Value} {d : Option Addr} {σ : L2.St} {H : Hp} (e : PySem.W.exmOne K cls c = some false) (h : wMix K Wo D r cls d σ H) : wMix K Wo D ((c, i, ts) :: r) cls d σ H :=
  ⟨false, e, fun z => Bool.noConfusion z, fun _ => h⟩
theorem mix_yes {Wo : WX} {D : Ends} {c : Value} {i : Option Nat} {ts : Addr → Value → Option Addr → TS} {r : List Cls1} {cls : Value} {d : Option Addr} {σ : L2.St} {H : Hp} (e : PySem.W.exmOne K cls c = some true) (h : ∀ a, H a = none → ts a cls d (endAt i D) (putAt i a σ) H) : wMix K Wo D ((c, i, ts) :: r) cls d σ H :=
  ⟨true, e, fun _ => h, fun z => Bool.noConfusion z⟩
/-- ('raised', text) -/
theorem su_plain {X : Cx} {z : Str} {j k : Nat} {p1 p2 p3 p4 : Pos} {x1} : SuiteOk X [.Return (some (.Tuple [.Constant (.str "raised") j p1, .Constant (.str z) k p2] x1 p3)) p4] (fun _ _ _ => tRet (tTup (tCons (tC (.str "raised")) (tCons (tC (.str z)) tNil)))) :=
  fun a oe cls d pn _ _ => pss_one (ps_ret (pe_tup (pa_cons pe_str (pa_cons pe_str pa_nil))))
def rCatS : V → V → Hp → VK → Prop := fun x y H Q => ∃ i j, x = .str i ∧ y = .str j ∧ i.length + j.length ≤ sizeLine ∧ Q (.str (i ++ j)) H
/-- ('raised', text + repr(error.f)) -/
theorem su_as {X : Cx} {z n fl : Str} {C : Addr} {i : Nat} {j : Nat} {p1 p2 p3 p4 p5 p6 p7 p8 p9 : Pos} {x1} (F : Fx X.K X.mg) (xf : XfC X.K C) (hno : PySem.W.findIn X.K (.ref C) fl = some none) (hN : X.N[i]? = some n) (hv : Vis X.env.scope n) (hg : Gl X "repr")
    (hd : (n == ("__debug__" : Str)) = false := by decide) (hcd : (n == ("__classdict__" : Str)) = false := by decide) (hb : attributeBase (.Name n p5) fl X.env (eval (.Name n p5) X.env) = eval (.Name n p5) X.env := by rfl)
    (he : starEach [.Attribute (.Name n p5) fl p6] X.env = (false, eval (.Attribute (.Name n p5) fl p6) X.env) :: starEach [] X.env := by rfl) :
    SuiteOk X [.Return (some (.Tuple [.Constant (.str "raised") j p1, .BinOp (.Constant (.str z) j p2) .Add (.Call (.Name "repr" p4) [.Attribute (.Name n p5) fl p6] [] p7) p8] x1 p3)) p9]
      (fun a cls d => tRet (tTup (tCons (tC (.str "raised")) (tCons (tOp rCatS (tC (.str z)) (tCB rReprA (tCons (tXf a cls d C fl (tVar i)) tNil))) tNil)))) :=
  fun a oe cls d pn hz hf => pss_one (ps_ret (pe_tup (pa_cons pe_str (pa_cons (pe_op op_add_str pe_str (pe_callB (X := X.suite a ((a, oe) :: pn)) call_reprA hg (F.b "repr" (by decide)) (by decide +kernel) (pa_cons (pe_xf xf hno hz hf (pe_var hN hv hd hcd) hb) pa_nil he))) pa_nil))))
theorem up1_ne {H : Hp} {t : Addr} (h : H t = none) {b : Addr} {o : HO} (e : H b = some o) {u : HO} : upd H t u b = some o := by
  rw [upd_ne (ne_of_none e h)]
  exact e
/-- what the suites then do -/
theorem su_plain_q {Q : VK} {z : Str} {D : Ends} {σ : L2.St} {H : Hp} (e : D.rt = Q) (h : ∀ t, H t = none → Q (.ref t) (upd H t (.tup [.str "raised", .str z]))) : tRet (tTup (tCons (tC (.str "raised")) (tCons (tC (.str z)) tNil))) D σ H := by
  subst e
  exact ⟨by show 2 ≤ sizeLine; rw [sizeLine_eq]; decide, h⟩
theorem su_as_q {Q : VK} {z : Str} {D : Ends} {σ : L2.St} {H : Hp} {a C dd : Addr} {fl : Str} {v : V} {p : PyData} {i : Nat} (e : D.rt = Q) (hz : z.length ≤ 1000) (hs : σ[i]? = some (some (.ref a))) (hd : H dd = some (.xd [(fl, v)])) (ha : Atm v p)
    (h : ∀ t, H t = none → Q (.ref t) (upd H t (.tup [.str "raised", .str (z ++ p.shown)]))) : tRet (tTup (tCons (tC (.str "raised")) (tCons (tOp rCatS (tC (.str z)) (tCB rReprA (tCons (tXf a (.ref C) (some dd) C fl (tVar i)) tNil))) tNil))) D σ H := by
  subst e
  refine ⟨.ref a, hs, rfl, rfl, dd, [(fl, v)], v, rfl, hd, ?_, v, p, rfl, ha, z, p.shown, rfl, rfl, ?_, by show 2 ≤ sizeLine; rw [sizeLine_eq]; decide, h⟩
  · show (match fl == fl with | true => some v | false => none) = some v
    rw [beq_self_eq_true]
  · have := ha.len
    rw [sizeLine_eq]
    omega
end T83

set_option Elab.async false
set_option linter.all false
set_option maxRecDepth 100000
set_option maxHeartbeats 2000000
namespace T83
open PySem PySem.Spec PyProof.Rows L2 LamX LmB TryX
section
variable {P : Program} {w : World} {K : PySem.W.Frag} {mg : Str → Option Value} {base : Heap}
theorem two_le : 2 ≤ sizeLine := by
  rw [sizeLine_eq]
  decide
theorem noF_of {tl : List Value} {a b c pn fl x : Str} {newId iB initId : String} (X : Xi tl newId iB initId pn fl P K mg x) : PySem.W.findIn K (.ref (cA K x)) fl = some none := by
  obtain ⟨fd, S, _⟩ := X.fd
  exact S.noF
theorem putAt_get {σ : L2.St} {i : Nat} {a : Addr} (h : i < σ.length) : (putAt (some i) a σ)[i]? = some (some (.ref a)) := by
  show (σ.set i _)[i]? = _
  rw [List.getElem?_set_self h]
theorem ok_met {g : Addr} {fd : FuncData} (F : Fx K mg) (E0 : Fe P K mg) (D : FnP K "_law_met" "_law_met" sMet g fd) : LamOk P w K mg base (L2.CX P w) 2 g fd "call" (spMet K) := by
  obtain ⟨oc, od, dV, kV, doc, pm, an, cdv, ct, osl, rfl, lk, hcd, hD, hK⟩ := D.ex
  intro fs H0 s0 f c' q tl j M A outer s H args Q E hr e0 hb un new hc hsp
  obtain ⟨ht, rfl⟩ := hsp
  refine run_ofS (N := ["call", "error"]) (ps := ["call"]) (us := [.ref f]) (vs := [.ref f]) lk hcd scMet hr e0 hb (.cons rfl .nil) rfl fun hr' => ⟨_, pss_one (ps_try_mix rfl rfl scMet.nd (takes_of rfl rfl rfl rfl)
    (tb := fun W D σ H => ∃ E' : XK, (∀ cls d H', E' cls d H' → W cls d σ H') ∧ σ[0]? = some (some (.ref f)) ∧ H c' = some (CodeO c' q) ∧ tl E' H (fun v H1 => 2 ≤ sizeLine ∧ ∀ p, H1 p = none → D.rt (.ref p) (upd H1 p (.tup [.str "told", v])))) (fun W pn xe tk _ => ?b)
    (.plain ⟨rfl, by decide, .inl (E0.g "InvalidMachine" (by decide))⟩ su_plain (.plain ⟨rfl, by decide, .inl (E0.g "InvalidPolicy" (by decide))⟩ su_plain (.plain ⟨rfl, by decide, .inl (E0.g "InvalidWish" (by decide))⟩ su_plain (.plain ⟨rfl, by decide, .inl (E0.g "InvalidLot" (by decide))⟩ su_plain
    (.plain ⟨rfl, by decide, .inl (E0.g "InvalidFraction" (by decide))⟩ su_plain (.plain ⟨rfl, by decide, .inl (E0.g "InvalidOperation" (by decide))⟩ su_plain (.as (i := 1) rfl rfl ⟨rfl, by decide, .inl (E0.g "InvalidNumber" (by decide))⟩ (su_as (i := 1) F E0.num.xf (noF_of (a := "") (b := "") (c := "") E0.num) rfl (.inl rfl) rfl)
    (.as (i := 1) rfl rfl ⟨rfl, by decide, .inl (E0.g "TooMany" (by decide))⟩ (su_as (i := 1) F E0.many.xf (noF_of (a := "") (b := "") (c := "") E0.many) rfl (.inl rfl) rfl) (.as (i := 1) rfl rfl ⟨rfl, by decide, .inl (E0.g "Refused" (by decide))⟩ (su_as (i := 1) F E0.rxf E0.rno rfl (.inl rfl) rfl) .nil)))))))))), ?_⟩
  case b =>
    refine ⟨fun pins s' σ H' D' I h' => ?_⟩
    have hp := pe_able (Z := (cxOf (L2.CX P w) P w K mg base ["call", "error"] "_law_met" (defScope sMet) g cdv A outer s H (WishO K Q)).tr pn xe) (i := 0) (a := "call") (p1 := ⟨497, 24, 497, 28⟩) (p2 := ⟨497, 24, 497, 30⟩) M hr' ⟨un, new, rfl⟩ tk rfl (.inl rfl)
    exact (pss_one (ps_ret (pe_tup (pa_cons pe_str (pa_cons hp pa_nil))))).run pins s' σ H' D' I h'
  refine ⟨Wish K Q, fun cls d H' hw => ?_, rfl, hc, ht⟩
  obtain ⟨z, hx, hq⟩ := hw
  have N : ∀ x y : Str, x ∈ rsdL → y ∈ cghL → x ≠ y → PySem.W.exmOne K (.ref (cA K x)) (.ref (cA K y)) = some false := fun x y hx hy ne => by
    rw [E0.m x hx y hy, decide_eq_false ne]
  have Y : ∀ x : Str, x ∈ rsdL → x ∈ cghL → PySem.W.exmOne K (.ref (cA K x)) (.ref (cA K x)) = some true := fun x hx hy => by
    rw [E0.m x hx x hy, decide_eq_true rfl]
  cases hx with
  | mach d => exact mix_yes (Y _ (by decide) (by decide)) fun a ha => su_plain_q rfl hq
  | name d =>
    exact mix_no (N _ _ (by decide) (by decide) (by decide)) (mix_no (N _ _ (by decide) (by decide) (by decide)) (mix_no (N _ _ (by decide) (by decide) (by decide)) (mix_no (N _ _ (by decide) (by decide) (by decide)) (mix_no (N _ _ (by decide) (by decide) (by decide)) (mix_no (N _ _ (by decide) (by decide) (by decide))
      (mix_no (N _ _ (by decide) (by decide) (by decide)) (mix_no (N _ _ (by decide) (by decide) (by decide)) (mix_no (N _ _ (by decide) (by decide) (by decide)) ⟨_, .name d, hq⟩))))))))
  | @num dd v p h a =>
    exact mix_no (N _ _ (by decide) (by decide) (by decide)) (mix_no (N _ _ (by decide) (by decide) (by decide)) (mix_no (N _ _ (by decide) (by decide) (by decide)) (mix_no (N _ _ (by decide) (by decide) (by decide)) (mix_no (N _ _ (by decide) (by decide) (by decide)) (mix_no (N _ _ (by decide) (by decide) (by decide))
      (mix_yes (Y _ (by decide) (by decide)) fun a' ha => su_as_q rfl (by decide) (putAt_get (Nat.lt_succ_self 1)) h a hq))))))
  | @many dd v p h a =>
    exact mix_no (N _ _ (by decide) (by decide) (by decide)) (mix_no (N _ _ (by decide) (by decide) (by decide)) (mix_no (N _ _ (by decide) (by decide) (by decide)) (mix_no (N _ _ (by decide) (by decide) (by decide)) (mix_no (N _ _ (by decide) (by decide) (by decide)) (mix_no (N _ _ (by decide) (by decide) (by decide))
      (mix_no (N _ _ (by decide) (by decide) (by decide)) (mix_yes (Y _ (by decide) (by decide)) fun a' ha => su_as_q rfl (by decide) (putAt_get (Nat.lt_succ_self 1)) h a hq)))))))
  | @unk dd v p h a =>
    exact mix_no (N _ _ (by decide) (by decide) (by decide)) (mix_no (N _ _ (by decide) (by decide) (by decide)) (mix_no (N _ _ (by decide) (by decide) (by decide)) (mix_no (N _ _ (by decide) (by decide) (by decide)) (mix_no (N _ _ (by decide) (by decide) (by decide)) (mix_no (N _ _ (by decide) (by decide) (by decide))
      (mix_no (N _ _ (by decide) (by decide) (by decide)) (mix_no (N _ _ (by decide) (by decide) (by decide)) (mix_no (N _ _ (by decide) (by decide) (by decide)) ⟨_, .unk h a, hq⟩))))))))
  | @noth dd v p h a =>
    exact mix_no (N _ _ (by decide) (by decide) (by decide)) (mix_no (N _ _ (by decide) (by decide) (by decide)) (mix_no (N _ _ (by decide) (by decide) (by decide)) (mix_no (N _ _ (by decide) (by decide) (by decide)) (mix_no (N _ _ (by decide) (by decide) (by decide)) (mix_no (N _ _ (by decide) (by decide) (by decide))
      (mix_no (N _ _ (by decide) (by decide) (by decide)) (mix_no (N _ _ (by decide) (by decide) (by decide)) (mix_no (N _ _ (by decide) (by decide) (by decide)) ⟨_, .noth h a, hq⟩))))))))
end
end T83

set_option Elab.async false
set_option linter.all false
set_option maxRecDepth 100000
set_option maxHeartbeats 2000000
namespace T83
open PySem PySem.Spec PyProof.Rows L2 LamX LmB TryX
theorem un_beyond {fs : List Addr} {H0 H : Hp} {h0 h : Heap} (u : Un fs [] H0 H h0 h) {b : Addr} (hb : h.objs.size ≤ b) : h0.get? b = none := by
  cases e : h0.get? b with
  | none => rfl
  | some o =>
    obtain ⟨o', e'⟩ := u.there b o e (by simp)
    exact absurd (Nat.lt_of_lt_of_le (Heap.lt_size e') hb) (Nat.lt_irrefl _)
section
variable {Z : Cx} {fs : List Addr} {H0 : Hp} {s0 : Shared} {f c' : Addr} {q : Str} {tl : XK → Hp → VK → Prop}
/-- x(a), a: the slot i, holds the lambda, x: a def that is handed one -/
theorem pe_hand {k j i : Nat} {a x n : Str} {g : Addr} {fd : FuncData} {sp : (XK → Hp → VK → Prop) → Hp → VK → XK → Prop} {W : WX} {p1 p2 p3 : Pos} (G : LamOk Z.prog Z.w Z.K Z.mg Z.base (L2.CX Z.prog Z.w) k g fd n sp) (hg : Gl Z x) (hm : Z.mg x = some (.ref g)) (hk : PySem.W.keepIn Z.K (.ref g) = true)
    (hb : Binds Z.K fd [n] []) (M : Lmb Z.prog Z.w Z.K Z.mg Z.base j fs H0 s0 f c' q tl) (hr : Room (j + k) Z.A) (ln : Link Z fs H0 s0) (lo : ∀ z ∈ frs Z.stack, z ∈ fs ∨ s0.heap.get? z = none) (tk : Takes Z W) (hN : Z.N[i]? = some a) (hv : Vis Z.env.scope a) (hdb : (x == ("__debug__" : Str)) = false := by decide)
    (hd : (a == ("__debug__" : Str)) = false := by decide) (hcd : (a == ("__classdict__" : Str)) = false := by decide) (he : starEach [.Name a p2] Z.env = (false, eval (.Name a p2) Z.env) :: starEach [] Z.env := by rfl) (hpl : (backTo p3 (starEach [] Z.env)).any (·.1) = false := by rfl) :
    PE Z (.Call (.Name x p1) [.Name a p2] [] p3) (fun σ H Q => ∃ E : XK, (∀ cls d H', E cls d H' → W cls d σ H') ∧ σ[i]? = some (some (.ref f)) ∧ H c' = some (CodeO c' q) ∧ sp tl H Q E) := by
  refine ⟨fun pins s σ H Q I h => ?_⟩
  obtain ⟨E, hW, hs, hc, ht⟩ := h
  refine wpAny_Call_Name_kw (ld_glob I hg hm ?_ hdb)
  refine PySem.W.callWith_K (h₀ := Z.base) I.ok.mod.kin hk (thn ((pa_cons (pe_var (pos := p2) (i := i) hN hv hd hcd) pa_nil he).run p3 pins s σ H (fun vs H1 => vs = [.ref f] ∧ H1 = H) I ⟨.ref f, hs, rfl, rfl⟩) fun us s1 ⟨vs, H1, I1, r, ev, eH⟩ => ⟨I1.kIn, ?_⟩) he hpl
  subst ev
  rw [eH] at I1
  obtain ⟨u, rfl, ru⟩ := vals1 r
  obtain rfl : u = Value.ref f := ru
  have b1 : Un Z.fs [] Z.H_0 H Z.s_0.heap s1.heap := by
    have b := I1.base
    rw [ln.ex] at b
    exact b
  have un : Un fs [] H0 H s0.heap s1.heap := un_deep ln.un b1 ln.new
  have bb := hb s1 [.ref f] I1.kIn rfl
  refine wpAny_call (codeAny_mono (G fs H0 s0 f c' q tl j M Z.A Z.stack s1 H ⟨[.ref f], []⟩ Q E hr I1.env0 bb un lo hc ht) fun r s' hq => ?_)
  cases r with
  | error e => exact tk e s' (XE.of_call I1 (fun cls d H' h => hW cls d H' h) hq)
  | ok fl =>
    cases fl with
    | ret u => exact I1.after hq
    | next => exact False.elim hq
    | brk => exact False.elim hq
    | cont => exact False.elim hq
end
section
variable {P : Program} {w : World} {K : PySem.W.Frag} {mg : Str → Option Value} {base : Heap}
/-! ### _law_heard -/
abbrev sHeard : Stmt := top 116
theorem scHeard : FnScope ["call", "error"] ["call"] (defScope sHeard) := ⟨rfl, rfl, rfl, by decide +kernel, rfl, by decide +kernel, by decide +kernel⟩
def spHeard (K : PySem.W.Frag) : (XK → Hp → VK → Prop) → Hp → VK → XK → Prop := fun tl H Q _ => tl (Wish K Q) H (Told Q)
theorem ok_heard {g m : Addr} {fd fdm : FuncData} (F : Fx K mg) (E0 : Fe P K mg) (D : FnP K "_law_heard" "_law_heard" sHeard g fd) (DM : FnP K "_law_met" "_law_met" sMet m fdm) (hm : mg "_law_met" = some (.ref m)) : LamOk P w K mg base CX0 3 g fd "call" (spHeard K) := by
  have G := ok_met (P := P) (w := w) (base := base) F E0 DM
  have bM : Binds K fdm ["call"] [] := DM.bindsN fun _ _ _ _ _ _ us hl => match us, hl with | [_], _ => rfl
  obtain ⟨oc, od, dV, kV, doc, pm, an, cdv, ct, osl, rfl, lk, hcd, hD, hK⟩ := D.ex
  intro fs H0 s0 f c' q tl j M A outer s H args Q E hr e0 hb un new hc ht
  refine run_ofS (N := ["call", "error"]) (ps := ["call"]) (us := [.ref f]) (vs := [.ref f]) lk hcd scHeard hr e0 hb (.cons rfl .nil) rfl fun hr' => ⟨_, pss_one (ps_try_mix rfl rfl scHeard.nd L2.takes0
    (tb := fun W D σ H => ∃ E' : XK, (∀ cls d H', E' cls d H' → W cls d σ H') ∧ σ[0]? = some (some (.ref f)) ∧ H c' = some (CodeO c' q) ∧ spMet K tl H D.rt E') (fun W pn xe tk _ => ?b)
    (.plain ⟨rfl, by decide, .inl (E0.g "InvalidName" (by decide))⟩ su_plain (.as (i := 1) rfl rfl ⟨rfl, by decide, .inl (E0.g "UnknownName" (by decide))⟩ (su_as (i := 1) F E0.unk.xf (noF_of (a := "") (b := "") (c := "") E0.unk) rfl (.inl rfl) rfl)
    (.as (i := 1) rfl rfl ⟨rfl, by decide, .inl (E0.g "NothingToUndo" (by decide))⟩ (su_as (i := 1) F E0.noth.xf (noF_of (a := "") (b := "") (c := "") E0.noth) rfl (.inl rfl) rfl) .nil)))), ?_⟩
  case b =>
    refine ⟨fun pins s' σ H' D' I h' => ?_⟩
    have hp := pe_hand (Z := (cxOf CX0 P w K mg base ["call", "error"] "_law_heard" (defScope sHeard) g cdv A outer s H E).tr pn xe) (i := 0) (a := "call") (x := "_law_met") (p1 := ⟨536, 15, 536, 23⟩) (p2 := ⟨536, 24, 536, 28⟩) (p3 := ⟨536, 15, 536, 29⟩) G rfl hm DM.kp bM M hr' ⟨un, new, rfl⟩ (fun z hz => ?l) tk rfl (.inl rfl)
    case l =>
      rcases List.mem_cons.mp (show z ∈ s.heap.objs.size :: frs outer from hz) with e | hz
      · rw [e]
        exact .inr (un_beyond un (Nat.le_refl _))
      · exact new z hz
    exact (pss_one (ps_ret hp)).run pins s' σ H' D' I h'
  refine ⟨WishO K Q, fun cls d H' hw => ?_, rfl, hc, ht, rfl⟩
  obtain ⟨z, hx, hq⟩ := hw
  have N : ∀ x y : Str, x ∈ rsdL → y ∈ cghL → x ≠ y → PySem.W.exmOne K (.ref (cA K x)) (.ref (cA K y)) = some false := fun x y hx hy ne => by
    rw [E0.m x hx y hy, decide_eq_false ne]
  have Y : ∀ x : Str, x ∈ rsdL → x ∈ cghL → PySem.W.exmOne K (.ref (cA K x)) (.ref (cA K x)) = some true := fun x hx hy => by
    rw [E0.m x hx x hy, decide_eq_true rfl]
  cases hx with
  | name d => exact mix_yes (Y _ (by decide) (by decide)) fun a ha => su_plain_q rfl hq
  | @unk dd v p h a => exact mix_no (N _ _ (by decide) (by decide) (by decide)) (mix_yes (Y _ (by decide) (by decide)) fun a' ha => su_as_q rfl (by decide) (putAt_get (Nat.lt_succ_self 1)) h a hq)
  | @noth dd v p h a => exact mix_no (N _ _ (by decide) (by decide) (by decide)) (mix_no (N _ _ (by decide) (by decide) (by decide)) (mix_yes (Y _ (by decide) (by decide)) fun a' ha => su_as_q rfl (by decide) (putAt_get (Nat.lt_succ_self 1)) h a hq))
end
end T83

set_option Elab.async false
set_option linter.all false
set_option maxRecDepth 100000
set_option maxHeartbeats 2000000
namespace T83
open PySem PySem.Spec PyProof.Rows L2 LamX LmB TryX
/-- x(lambda: body): what x makes of it, whatever the making of the lambda adds -/
def tHand (T : List (Addr × Str)) (sp : (XK → Hp → VK → Prop) → Hp → VK → XK → Prop) (t : XK → TE) : TE := fun σ H Q => Tabs T H ∧ ∀ H1, ExtN H H1 → Tabs T H1 → sp (fun E H' Q' => t E σ H' Q') H1 Q E0
section
variable {X : Cx}
theorem pe_lamto {T : List (Addr × Str)} {sp : (XK → Hp → VK → Prop) → Hp → VK → XK → Prop} {x n : Str} {g c P : Addr} {fd : FuncData} {k j : Nat} {params : Arguments} {body : Expr} {scope : Scope} {t : XK → TE} {p lpos pos : Pos} (G : LamOk X.prog X.w X.K X.mg X.base CX0 k g fd n sp) (hg : Gl X x) (hm : X.mg x = some (.ref g))
    (hk : PySem.W.keepIn X.K (.ref g) = true) (hb : L2.Binds X.K fd [n] []) (TB : TabB X.base X.mg c P) (hcode : X.env.code = .ref c) (hmT : (P, X.env.qual ++ "<lambda>") ∈ T) (hu : ∀ p ∈ T, p.1 = P → p.2 = X.env.qual ++ "<lambda>") (hr : Room (j + k) X.A) (L : LamS X.env.scope scope)
    (hbody : ∀ (A : Around) (outer : List Env) (s : Shared) (H : Hp) (E : XK) (f c' : Addr), Room j (A.deeper (lamEnv X scope s.heap.objs.size f c')) → PE (lamCx X A outer s H E scope f c') body (t E))
    (hdef : defaultsOf params X.env = ([], []) := by rfl) (hbind : ∀ (q : Str) (cl : List (Str × Addr)) (pm cv ctv : Value), bindArgs (PySem.W.kla_fn "<lambda>" q params body scope cl pm cv ctv) ⟨[], []⟩ = pure [] := by intro _ _ _ _ _; rfl) (hdb : (x == ("__debug__" : Str)) = false := by decide) :
    PE X (.Call (.Name x p) [.Lambda params body scope lpos] [] pos) (tHand T sp t) := by
  refine ⟨fun pins s σ H Q I h => ?_⟩
  obtain ⟨hT, h⟩ := h
  refine wpAny_Call_Name_kw (ld_glob I hg hm ?_ hdb)
  refine PySem.W.callWith_K (h₀ := X.base) I.ok.mod.kin hk ?_ (by rfl) (by rfl)
  show wpAny _ _ (spliced ((false, eval (.Lambda params body scope lpos) X.env) :: backTo pos (starEach [] X.env))) _ _ s
  refine Calls.spliced_cons (lam_make2 I TB hcode hmT hu hT hdef (L.has I.ok) fun f c' pm' ctv H1 s' I1 eN T1 hf hfn hfr hco => Calls.spliced_nil ⟨I1.kIn, ?_⟩)
  have M : Lmb X.prog X.w X.K X.mg X.base j (frs X.stack) H1 s' f c' (X.env.qual ++ "<lambda>") (fun E HZ Q => t E σ HZ Q) := lmb_of I1 L hf hfn hfr (hbind _ _ _ _ _) fun A outer s H E hr2 => hbody A outer s H E f c' hr2
  refine wpAny_call (codeAny_mono (G (frs X.stack) H1 s' f c' _ _ j M X.A X.stack s' H1 ⟨[.ref f], []⟩ Q E0 hr I1.env0 (hb s' [.ref f] I1.kIn rfl) Un.refl (fun z hz => .inl hz) hco (h H1 eN T1)) fun r s2 hq => ?_)
  cases r with
  | error e => exact (show False from hq).elim
  | ok fl =>
    cases fl with
    | ret u => exact I1.after hq
    | next => exact False.elim hq
    | brk => exact False.elim hq
    | cont => exact False.elim hq
end
end T83

set_option Elab.async false
set_option linter.all false
set_option maxRecDepth 100000
set_option maxHeartbeats 2000000
namespace T83
open PySem PySem.Spec PyProof.Rows L2
section
variable {P : Program} {w : World} {K : PySem.W.Frag} {mg : Str → Option Value} {base : Heap}
/-! ### is_whole, is_within -/
abbrev sIsWhole : Stmt := top 19
theorem scIsWhole : FnScope ["value"] ["value"] (defScope sIsWhole) := ⟨rfl, rfl, rfl, by decide +kernel, rfl, by decide +kernel, by decide +kernel⟩
def spIsWhole : Sp := fun vs H Q _ => ∃ x d, vs = [x] ∧ Dv H x d ∧ Q (.bl (isI d)) H
theorem ok_is_whole (F : Fx K mg) (D : At K mg "is_whole" sIsWhole) : Cal P w K mg base CX0 1 "is_whole" ["value"] spIsWhole := by
  refine cal_of D scIsWhole (fun vs H Q E h => ?_) (fun _ _ _ _ _ _ us hl => match us, hl with | [_], _ => rfl) fun f cdv A outer s H vs Q E hr h => ⟨_, PSs.nox (pss_one (ps_ret (pe_and (pe_isi (T := "int") (F.b "isinstance" (by decide)) (F.b "int" (by decide)) (pv 0)) (pe_one (pe_not (pe_isi (T := "bool") (F.b "isinstance" (by decide)) (F.b "bool" (by decide)) (pv 0)))))) ), ?_⟩
  · obtain ⟨x, d, rfl, _⟩ := h
    rfl
  · obtain ⟨x, d, rfl, hd, hq⟩ := h
    refine ⟨x, rfl, x, .ty "int", _, _, _, rfl, .ty _, hd.ty, kit_int d, _, rfl, ?_⟩
    have e := isW_eq d
    cases hb : (isI d || isB d) with
    | false =>
      rw [hb] at e
      refine iteF ?_
      rw [show false = isI d from e]
      exact hq
    | true =>
      rw [hb] at e
      refine iteT ⟨x, rfl, x, .ty "bool", _, _, _, rfl, .ty _, hd.ty, kit_bool d, _, rfl, ?_⟩
      rw [show (!isB d) = isI d from e]
      exact hq
theorem isI_of {H : Hp} {x : V} {d : PyData} (h : Dv H x d) (e : isI d = true) : ∃ i, x = .int i ∧ d = .int i := by
  cases h with
  | tp h => cases h <;> first | exact ⟨_, rfl, rfl⟩ | cases e
  | lst h => cases e
  | emp h => cases e
/-- a whole number from a to b -/
def wi (a b : Int) : PyData → Bool
  | .int i => decide (a ≤ i) && decide (i ≤ b)
  | _ => false
abbrev sIsWithin : Stmt := top 20
theorem scIsWithin : FnScope ["value", "least", "most"] ["value", "least", "most"] (defScope sIsWithin) := ⟨rfl, rfl, rfl, by decide +kernel, rfl, by decide +kernel, by decide +kernel⟩
def spIsWithin : Sp := fun vs H Q _ => ∃ x d a b, vs = [x, .int a, .int b] ∧ Dv H x d ∧ Q (.bl (wi a b d)) H
theorem ok_is_within (F : Fx K mg) (D : At K mg "is_within" sIsWithin) (G : Cal P w K mg base CX0 1 "is_whole" ["value"] spIsWhole) : Cal P w K mg base CX0 2 "is_within" ["value", "least", "most"] spIsWithin := by
  refine cal_of D scIsWithin (fun vs H Q E h => ?_) (fun _ _ _ _ _ _ us hl => match us, hl with | [_, _, _], _ => rfl) fun f cdv A outer s H vs Q E hr h => ⟨_, PSs.nox (pss_one (ps_ret (pe_and (pe_cal G hr (by rfl) pass0 (pa_cons (pv 0) pa_nil)) (pe_and (pe_cmpR op_le (pv 1) (pv 0) (nomark _))
    (pe_one (pe_or (pe_cmpR op_isN (pv 2) pe_non (nomark _)) (pe_one (pe_cmpR op_le (pv 0) (pv 2) (nomark _)))))))) ), ?_⟩
  · obtain ⟨x, d, a, b, rfl, _⟩ := h
    rfl
  · obtain ⟨x, d, a, b, rfl, hd, hq⟩ := h
    refine ⟨x, rfl, x, d, rfl, hd, _, rfl, ?_⟩
    cases e : isI d with
    | false =>
      refine iteF ?_
      have e2 : wi a b d = false := by cases d <;> first | rfl | cases e
      rw [e2] at hq
      exact hq
    | true =>
      obtain ⟨i, rfl, rfl⟩ := isI_of hd e
      refine iteT ⟨_, rfl, _, rfl, a, i, rfl, rfl, _, rfl, ?_⟩
      have e2 : wi a b (.int i) = (decide (a ≤ i) && decide (i ≤ b)) := rfl
      rw [e2] at hq
      cases c1 : decide (a ≤ i) with
      | false =>
        rw [c1] at hq
        exact iteF hq
      | true =>
        rw [c1] at hq
        exact iteT ⟨_, rfl, rfl, _, rfl, iteF ⟨_, rfl, _, rfl, i, b, rfl, rfl, hq⟩⟩
end
end T83

set_option Elab.async false
set_option linter.all false
set_option maxRecDepth 100000
set_option maxHeartbeats 2000000
namespace T83
open PySem PySem.Spec PyProof.Rows L2 RZ
/-- a walk of n items while F stands; Y: what an item is -/
structure Feed (J : It) (n : Nat) (F : Hp → Prop) (Y : Nat → V → Hp → Prop) : Prop where
  go : ∀ i H, i < n → F H → J.go i H
  stop : ∀ H, F H → J.stop n H
  yld : ∀ i H x H', i < n → F H → J.yld i H x H' → Same H H' ∧ Y i x H'
theorem snoc_get {α : Type} {ys : List α} {y z : α} {j : Nat} (h : (ys ++ [y])[j]? = some z) : ys[j]? = some z ∨ (j = ys.length ∧ z = y) := by
  by_cases hj : j < ys.length
  · rw [List.getElem?_append_left hj] at h
    exact .inl h
  · rw [List.getElem?_append_right (by omega)] at h
    have e : j - ys.length = 0 := by
      cases e : j - ys.length with
      | zero => rfl
      | succ n => rw [e] at h; simp at h
    rw [e] at h
    exact .inr ⟨by omega, (Option.some.inj h).symm⟩
/-- a comprehension without conditions over such a walk: R i y: what it makes of item i -/
theorem lc_feed {J : It} {n : Nat} {F : Hp → Prop} {Y : Nat → V → Hp → Prop} {g : TG} {tt : TT} {te : TE} {vs : List Nat} {σ : L2.St} {H1 : Hp} {D : Addr} {Qd : Hp → Prop} (fd : Feed J n F Y) (hF : ∀ H, Same H1 H → F H) (hD : H1 D = none) (hn : n ≤ sizeLine) (R : Nat → V → Hp → Prop)
    (stab : ∀ i y H H', TupK H H' → R i y H → R i y H')
    (hs : ∀ (i : Nat) x H (k : Hp → Prop), i < n → Y i x H → Same H1 H → (∀ y H4, Same H H4 → R i y H4 → ∃ acc, H4 D = some (.lst acc) ∧ acc.length < sizeLine ∧ k (upd H4 D (.lst (acc ++ [y])))) → g x (wipe σ vs) H fun σ2 H2 => wipe σ2 vs = wipe σ vs ∧ tt σ2 H2 fun b H3 =>
      if b = true then te σ2 H3 fun y H4 => ∃ acc, H4 D = some (.lst acc) ∧ acc.length < sizeLine ∧ k (upd H4 D (.lst (acc ++ [y]))) else k H3)
    (hd : ∀ H ys, ys.length = n → (∀ i y, ys[i]? = some y → R i y H) → H D = some (.lst ys) → Same H1 H → Qd H) :
    ∃ W : Nat → Nat → Hp → Prop, (∃ m, W 0 m (upd H1 D (.lst []))) ∧ ∀ i m H, W i m H →
      (J.stop i H ∧ Qd H) ∨ (J.go i H ∧ ∃ Nx : Hp → Prop, (∀ H', Nx H' → ∃ m', m' < m ∧ W (i + 1) m' H') ∧ ∀ x H', J.yld i H x H' → g x (wipe σ vs) H' fun σ2 H2 => wipe σ2 vs = wipe σ vs ∧ tt σ2 H2 fun b H3 =>
        if b = true then te σ2 H3 fun y H4 => ∃ acc, H4 D = some (.lst acc) ∧ acc.length < sizeLine ∧ Nx (upd H4 D (.lst (acc ++ [y]))) else Nx H3) := by
  have haD : ∀ b o, H1 b = some o → b ≠ D := fun b o h z => by
    rw [z, hD] at h
    cases h
  let S : Nat → Hp → Prop := fun i H => ∃ ys, ys.length = i ∧ (∀ j y, ys[j]? = some y → R j y H) ∧ H D = some (.lst ys) ∧ Same H1 H
  refine ⟨fun i m H => m = n - i ∧ i ≤ n ∧ S i H, ⟨n, by simp, Nat.zero_le _, [], rfl, fun j y h => by simp at h, upd_same, fun b o h => by rw [upd_ne (haD b o h)]; exact h⟩, ?_⟩
  rintro i m H ⟨rfl, hi, ys, hy, hr, hDl, sm⟩
  by_cases hlt : i < n
  · refine .inr ⟨fd.go i H hlt (hF H sm), S (i + 1), fun H' p' => ⟨n - (i + 1), by omega, rfl, hlt, p'⟩, fun x H' y => ?_⟩
    obtain ⟨s1, y1⟩ := fd.yld i H x H' hlt (hF H sm) y
    refine hs i x H' _ hlt y1 (sm.trans s1) fun z H4 s4 r => ⟨ys, s4 _ _ (s1 _ _ hDl), by omega, ys ++ [z], by rw [List.length_append, hy]; rfl, ?_, upd_same, fun b o h => by rw [upd_ne (haD b o h)]; exact s4 _ _ (s1 _ _ (sm _ _ h))⟩
    have tk : TupK H4 (upd H4 D (.lst (ys ++ [z]))) := tk_upd (s4 _ _ (s1 _ _ hDl)) id
    intro j u hu
    rcases snoc_get hu with h | ⟨rfl, rfl⟩
    · exact stab _ _ _ _ (((s1.trans s4).tups).trans tk) (hr j u h)
    · rw [hy]
      exact stab _ _ _ _ tk r
  · have e : i = n := by omega
    subst e
    exact .inl ⟨fd.stop H (hF H sm), hd H ys hy hr hDl sm⟩
/-- over a list, over a tuple -/
theorem feed_l {K : PySem.W.Frag} {a : Addr} {xs : List V} : Feed (Itl K a) xs.length (fun H => SqL K H a xs) (fun i x _ => xs[i]? = some x) :=
  ⟨fun i H h f => ⟨xs, xs[i], f, by simp [h]⟩, fun H f => ⟨xs, f, Nat.le_refl _⟩, fun i H x H' h f y => by
    obtain ⟨e, y⟩ := y
    subst e
    exact ⟨Same.refl _, y xs f⟩⟩
theorem feed_t {K : PySem.W.Frag} {a : Addr} {xs : List V} : Feed (Itt K a) xs.length (fun H => SqT K H a xs) (fun i x _ => xs[i]? = some x) :=
  ⟨fun i H h f => ⟨xs, xs[i], f, by simp [h]⟩, fun H f => ⟨xs, f, Nat.le_refl _⟩, fun i H x H' h f y => by
    obtain ⟨e, y⟩ := y
    subst e
    exact ⟨Same.refl _, y xs f⟩⟩
theorem same_laid {H : Hp} {t : Addr} {o : HO} (h : H t = none) : Same H (upd H t o) := fun b u e => by
  rw [upd_ne (ne_of_none e h)]
  exact e
/-- over zip of two lists, of two tuples -/
theorem feed_zl {K : PySem.W.Frag} {a b : Addr} {xs ys : List V} {n : Nat} (hn : n = min xs.length ys.length) : Feed (Itz K a b) n (fun H => SqL K H a xs ∧ SqL K H b ys) (fun i v H => ∃ T x y, v = .ref T ∧ H T = some (.tup [x, y]) ∧ xs[i]? = some x ∧ ys[i]? = some y) :=
  ⟨fun i H h f => ⟨xs, ys, xs[i]'(by omega), ys[i]'(by omega), f.1, f.2, by simp, by simp⟩, fun H f => ⟨xs, ys, f.1, f.2, by omega⟩, fun i H v H' h f y => by
    obtain ⟨T, x, z, rfl, hT, rfl, y1, y2⟩ := y
    exact ⟨same_laid hT, T, x, z, rfl, upd_same, y1 xs f.1, y2 ys f.2⟩⟩
theorem feed_zt {K : PySem.W.Frag} {a b : Addr} {xs ys : List V} {n : Nat} (hn : n = min xs.length ys.length) : Feed (ItzT K a b) n (fun H => SqT K H a xs ∧ SqT K H b ys) (fun i v H => ∃ T x y, v = .ref T ∧ H T = some (.tup [x, y]) ∧ xs[i]? = some x ∧ ys[i]? = some y) :=
  ⟨fun i H h f => ⟨xs, ys, xs[i]'(by omega), ys[i]'(by omega), f.1, f.2, by simp, by simp⟩, fun H f => ⟨xs, ys, f.1, f.2, by omega⟩, fun i H v H' h f y => by
    obtain ⟨T, x, z, rfl, hT, rfl, y1, y2⟩ := y
    exact ⟨same_laid hT, T, x, z, rfl, upd_same, y1 xs f.1, y2 ys f.2⟩⟩
end T83

set_option Elab.async false
set_option linter.all false
set_option maxRecDepth 100000
set_option maxHeartbeats 2000000
namespace T83
open PySem PySem.Spec PyProof.Rows L2 NS
/-- one choice below another -/
def ltC (c d : Chc) : Bool := PySem.W.dataLt (dC c) (dC d)
theorem dC_ne (c : Chc) : dC c ≠ .none := fun h => by cases h
section
variable {X : Cx}
theorem op_ltC (hu : X.A.units + 64 < cLine) : OpR X (compareOp .Lt) (fun x y H Q => ∃ (a b : Addr) (c d : Chc), x = .ref a ∧ y = .ref b ∧ Tp H x (dC c) ∧ Tp H y (dC d) ∧ Q (.bl (ltC c d)) H) := by
  intro pins s σ H x y v u Q I rx ry h
  obtain ⟨a, b, c, d, rfl, rfl, hc, hd, q⟩ := h
  obtain ⟨as, r1⟩ := Dp.reads I _ _ v hc.dp rx
  obtain ⟨bs, r2⟩ := Dp.reads I _ _ u hd.dp ry
  have l := PySem.W.rcLt_alike (dC c) (dC d) X.A s v u as bs r1 r2 (alike_dC c d) (dC_ne c) (by have := dC_dep c; have := dC_dep d; omega)
  show wpAny _ _ (richCompare .Lt v u) _ _ _
  exact l _ _ _ _ ⟨.bl (ltC c d), H, I, rfl, q⟩
end
end T83

set_option Elab.async false
set_option linter.all false
set_option maxRecDepth 100000
set_option maxHeartbeats 2000000
namespace T83
open PySem PySem.Spec PyProof.Rows L2 RZ
/-- one below the next, all along -/
def ascB {α : Type} (lt : α → α → Bool) : List α → Bool
  | a :: b :: r => lt a b && ascB lt (b :: r)
  | _ => true
/-- the i-th below the next one -/
def nxt {α : Type} (lt : α → α → Bool) (l : List α) (i : Nat) : Bool := match l[i]?, l[i + 1]? with
  | some a, some b => lt a b
  | _, _ => true
theorem asc_all {α : Type} (lt : α → α → Bool) : ∀ l : List α, ((List.range (l.length - 1)).map (nxt lt l)).all id = ascB lt l
  | [] => rfl
  | [a] => rfl
  | a :: b :: r => by
    have ih := asc_all lt (b :: r)
    show ((List.range (r.length + 1)).map (nxt lt (a :: b :: r))).all id = (lt a b && ascB lt (b :: r))
    rw [List.range_succ_eq_map, List.map_cons, List.map_map, List.all_cons, ← ih]
    rfl
theorem list_of {ys : List V} {n : Nat} {f : Nat → Bool} (hl : ys.length = n) (h : ∀ i y, ys[i]? = some y → y = V.bl (f i)) : ys = ((List.range n).map f).map V.bl := by
  refine List.ext_getElem? fun i => ?_
  rw [List.map_map, List.getElem?_map]
  by_cases hi : i < n
  · rw [List.getElem?_range hi]
    have : i < ys.length := by omega
    rw [List.getElem?_eq_getElem this]
    exact congrArg some (h i _ (List.getElem?_eq_getElem this))
  · rw [List.getElem?_eq_none (by omega), List.getElem?_eq_none (by simp; omega)]
    rfl
theorem cut1 (xs : List V) : cutV xs (some 1) none = xs.drop 1 := by
  unfold cutV
  rw [show (1 : Int) = ((1 : Nat) : Int) from rfl, HT.sIx_nat, HT.sIx_none]
  cases xs with
  | nil => rfl
  | cons x xs => simp
theorem lc_yes {σ : L2.St} {H : Hp} {A B : Hp → Prop} (h : A H) : tYes σ H (fun b H3 => if b = true then A H3 else B H3) := by
  show if true = true then A H else B H
  rw [if_pos rfl]
  exact h
theorem sqt_same {K : PySem.W.Frag} {H H' : Hp} {a : Addr} {xs : List V} (e : Same H H') (h : SqT K H a xs) : SqT K H' a xs := by
  rcases h with h | h
  · rcases h with h | ⟨o, h⟩
    · exact .inl (.inl (e _ _ h))
    · exact .inl (.inr ⟨o, e _ _ h⟩)
  · exact .inr h
theorem tc_same {H H' : Hp} {ks : List KC} (e : Same H H') (h : TC H ks) : TC H' ks := fun p hp => (h p hp).keep e.tups
section
variable {P : Program} {w : World} {K : PySem.W.Frag} {mg : Str → Option Value} {base : Heap}
/-! ### is_ascending -/
abbrev sAsc : Stmt := top 23
theorem scAsc : FnScope ["items", "one", "other"] ["items"] (defScope sAsc) := ⟨rfl, rfl, rfl, by decide +kernel, rfl, by decide +kernel, by decide +kernel⟩
def spAsc (K : PySem.W.Frag) : Sp := fun vs H Q _ => ∃ a, vs = [.ref a] ∧ ((∃ is : List Int, is.length ≤ 1000 ∧ SqL K H a (is.map V.int) ∧ ∀ H', Same H H' → Q (.bl (ascB (fun i j => decide (i < j)) is)) H') ∨ (∃ ks : List KC, ks.length ≤ 1000 ∧ SqT K H a (rf ks) ∧ TC H ks ∧ ks ≠ [] ∧ ∀ H', Same H H' → Q (.bl (ascB ltC (ks.map (·.2)))) H'))
theorem ok_asc (F : Fx K mg) (D : At K mg "is_ascending" sAsc) : Cal P w K mg base CX0 1 "is_ascending" ["items"] (spAsc K) := by
  refine cal_of D scAsc (fun vs H Q E h => ?_) (fun _ _ _ _ _ _ us hl => match us, hl with | [_], _ => rfl) fun f cdv A outer s H vs Q E hr h => ⟨_, PSs.nox (pss_one (ps_ret (pe_callB (cr_all rfl) (by rfl) (F.b "all" (by decide)) (by decide +kernel) (pa_cons
    (pe_lc (own := [("one", 1), ("other", 2)]) (g := gTup K 2 (gCons (gName 1) (gCons (gName 2) gNil))) (tt := tYes) rfl scAsc.nd (pi_zipA (by rfl) (F.b "zip" (by decide)) (pa_cons (pv 0) (pa_cons (pe_slice (SlR.or sl_list sl_tupA) (pv 0) (po_some pe_int) po_none) pa_nil)))
      (blkOk_by (N := ["items", "one", "other"]) (sc := defScope sAsc) (by decide +kernel)) (fun _ _ _ _ _ => pg_tup rfl (pgs_cons (pg_name (i := 1) scAsc.nd rfl (Or.inl rfl)) (pgs_cons (pg_name (i := 2) scAsc.nd rfl (Or.inl rfl)) pgs_nil))) (fun _ _ _ _ _ => pts_nil)
      (fun _ _ _ _ _ => pe_cmpR (OpR.or op_lt (op_ltC hr.units)) (pv 1) (pv 2) (nomark _))) pa_nil)))), ?_⟩
  · obtain ⟨a, rfl, _⟩ := h
    rfl
  · obtain ⟨a, rfl, h⟩ := h
    rcases h with ⟨is, hz, hs, hq⟩ | ⟨ks, hz, hs, hk, hne, hq⟩
    · refine ⟨_, rfl, _, rfl, 1, rfl, .inl ⟨a, _, rfl, hs, fun p hp => ?_⟩⟩
      have s1 : Same H (upd H p (.lst (cutV (is.map V.int) (some 1) none))) := same_laid hp
      refine ⟨a, p, _, _, rfl, .inl ⟨s1.seq hs, SqL.of upd_same, fun D hD => ?_⟩⟩
      refine lc_feed (n := is.length - 1) (feed_zl (by rw [cut1]; simp)) (fun H' s2 => ⟨s2.seq (s1.seq hs), s2.seq (SqL.of upd_same)⟩) hD (by rw [sizeLine_eq]; omega) (fun i y _ => y = V.bl (nxt (fun i j => decide (i < j)) is i)) (fun i y H H' _ e => e) (fun i x H' k hi hY sm hk => ?_) (fun H' ys hl hr hL sm => ?_)
      · obtain ⟨T, x1, y1, rfl, hT, hx, hy⟩ := hY
        refine ⟨T, [x1, y1], rfl, SqT.of hT, rfl, x1, _, rfl, y1, _, rfl, rfl, rfl, lc_yes ?_⟩
        rw [cut1, List.getElem?_drop, List.getElem?_map] at hy
        rw [List.getElem?_map] at hx
        obtain ⟨m, hm, rfl⟩ := Option.map_eq_some_iff.mp hx
        obtain ⟨m2, hm2, rfl⟩ := Option.map_eq_some_iff.mp hy
        refine ⟨_, rfl, _, rfl, .inl ⟨m, m2, rfl, rfl, hk _ _ (Same.refl _) ?_⟩⟩
        unfold nxt
        rw [hm, Nat.add_comm i 1, hm2]
      · refine ⟨D, _, rfl, SqL.of (list_of hl hr ▸ hL), ?_⟩
        rw [asc_all]
        exact hq H' (s1.trans sm)
    · have hl1 : 1 ≤ ks.length := by
        cases ks with
        | nil => exact absurd rfl hne
        | cons _ _ => simp
      have hrl : (rf ks).length = ks.length := List.length_map _
      refine ⟨_, rfl, _, rfl, 1, rfl, .inr ⟨a, _, rfl, hs, fun z => ?_, fun _ p hp => ?_⟩⟩
      · rw [show (1 : Int) = ((1 : Nat) : Int) from rfl, HT.sIx_nat] at z
        omega
      have s1 : Same H (upd H p (.tup (cutV (rf ks) (some 1) none))) := same_laid hp
      refine ⟨a, p, _, _, rfl, .inr ⟨sqt_same s1 hs, SqT.of upd_same, fun D hD => ?_⟩⟩
      refine lc_feed (n := ks.length - 1) (feed_zt (by rw [cut1]; simp)) (fun H' s2 => ⟨sqt_same s2 (sqt_same s1 hs), sqt_same s2 (SqT.of upd_same)⟩) hD (by rw [sizeLine_eq]; omega) (fun i y _ => y = V.bl (nxt ltC (ks.map (·.2)) i)) (fun i y H H' _ e => e) (fun i x H' k hi hY sm hkk => ?_) (fun H' ys hl hr hL sm => ?_)
      · obtain ⟨T, x1, y1, rfl, hT, hx, hy⟩ := hY
        refine ⟨T, [x1, y1], rfl, SqT.of hT, rfl, x1, _, rfl, y1, _, rfl, rfl, rfl, lc_yes ?_⟩
        rw [cut1, List.getElem?_drop, List.getElem?_map] at hy
        rw [List.getElem?_map] at hx
        obtain ⟨m, hm, rfl⟩ := Option.map_eq_some_iff.mp hx
        obtain ⟨m2, hm2, rfl⟩ := Option.map_eq_some_iff.mp hy
        have kk := tc_same (s1.trans sm) hk
        refine ⟨_, rfl, _, rfl, .inr ⟨m.1, m2.1, m.2, m2.2, rfl, rfl, kk m (List.mem_of_getElem? hm), kk m2 (List.mem_of_getElem? hm2), hkk _ _ (Same.refl _) ?_⟩⟩
        unfold nxt
        rw [List.getElem?_map, hm, List.getElem?_map, Nat.add_comm i 1, hm2]
        rfl
      · refine ⟨D, _, rfl, SqL.of (list_of hl hr ▸ hL), ?_⟩
        have e : ks.length - 1 = (ks.map (·.2)).length - 1 := by rw [List.length_map]
        rw [e, asc_all]
        exact hq H' (s1.trans sm)
end
end T83

set_option Elab.async false
set_option linter.all false
set_option maxRecDepth 100000
set_option maxHeartbeats 2000000
namespace T83
open PySem PySem.Spec PyProof.Rows L2 RZ
section
variable {P : Program} {w : World} {K : PySem.W.Frag} {mg : Str → Option Value} {base : Heap}
theorem tup_of {H : Hp} {x : V} {d : PyData} (hd : Dv H x d) (hU : isT d = true) : ∃ a xs ds, x = .ref a ∧ d = .tuple ds ∧ Rd H a (.tup xs) ∧ TpAll H xs ds := by
  cases hd with
  | emp h => cases hU
  | lst h => cases hU
  | tp h => cases h with
    | tup h k _ => exact ⟨_, _, _, rfl, rfl, .inl h, k⟩
    | prt h k _ => exact ⟨_, _, _, rfl, rfl, h.rd, k⟩
    | _ => cases hU
/-! ### is_pair -/
abbrev sIsPair : Stmt := top 21
theorem scIsPair : FnScope ["value"] ["value"] (defScope sIsPair) := ⟨rfl, rfl, rfl, by decide +kernel, rfl, by decide +kernel, by decide +kernel⟩
def isP : PyData → Bool
  | .tuple ds => decide (ds.length = 2)
  | _ => false
def spIsPair : Sp := fun vs H Q _ => ∃ x d, vs = [x] ∧ Dv H x d ∧ Q (.bl (isP d)) H
theorem ok_is_pair (F : Fx K mg) (D : At K mg "is_pair" sIsPair) : Cal P w K mg base CX0 1 "is_pair" ["value"] spIsPair := by
  refine cal_of D scIsPair (fun vs H Q E h => ?_) (fun _ _ _ _ _ _ us hl => match us, hl with | [_], _ => rfl) fun f cdv A outer s H vs Q E hr h => ⟨_, PSs.nox (pss_one (ps_ret (pe_and (pe_isi (T := "tuple") (F.b "isinstance" (by decide)) (F.b "tuple" (by decide)) (pv 0))
    (pe_one (pe_cmpR op_eq (pe_callB call_len (by rfl) (F.b "len" (by decide)) boot_len (pa_cons (pv 0) pa_nil)) (pe_gi F.c_pair) (nomark _)))))), ?_⟩
  · obtain ⟨x, d, rfl, _⟩ := h
    rfl
  · obtain ⟨x, d, rfl, hd, hq⟩ := h
    refine ⟨x, rfl, x, .ty "tuple", _, _, _, rfl, .ty _, hd.ty, kit_tuple d, _, rfl, ?_⟩
    cases hU : isT d with
    | false =>
      refine iteF ?_
      have e : isP d = false := by cases d <;> first | rfl | cases hU
      rw [e] at hq
      exact hq
    | true =>
      obtain ⟨a, xs, ds, rfl, rfl, ha, hds⟩ := tup_of hd hU
      refine iteT ⟨_, rfl, _, xs.length, rfl, .inr ⟨xs, .inl ha, rfl⟩, ?_⟩
      have e : decide (V.int ((xs.length : Nat) : Int) = V.int 2) = isP (.tuple ds) := by
        show _ = decide (ds.length = 2)
        rw [hds.len]
        exact decide_eq_decide.mpr ⟨fun h => by injection h with h; omega, fun h => by rw [h]; rfl⟩
      refine ⟨rfl, ?_⟩
      rw [e]
      exact hq
end
end T83

set_option Elab.async false
set_option linter.all false
set_option maxRecDepth 100000
set_option maxHeartbeats 2000000
namespace T83
open PySem PySem.Spec PyProof.Rows L2 RZ
/-- over a text -/
theorem feed_s {z : Str} : Feed (Its z) z.length (fun _ => True) (fun i x _ => ∃ c, z.cps.toList[i]? = some c ∧ x = .str ⟨#[c]⟩) :=
  ⟨fun i H h _ => h, fun H _ => Nat.le_refl _, fun i H x H' h _ y => by
    obtain ⟨rfl, c, hc, rfl⟩ := y
    exact ⟨Same.refl _, c, by rw [Array.getElem?_toList]; exact hc, rfl⟩⟩
def opB {α : Type} (p : α → Bool) : Option α → Bool
  | some c => p c
  | none => true
theorem range_get {α : Type} (l : List α) (p : α → Bool) : ((List.range l.length).map fun i => opB p l[i]?).all id = l.all p := by
  induction l with
  | nil => rfl
  | cons a l ih =>
    rw [List.length_cons, List.range_succ_eq_map, List.map_cons, List.map_map, List.all_cons, List.all_cons, ← ih]
    rfl
section
variable {P : Program} {w : World} {K : PySem.W.Frag} {mg : Str → Option Value} {base : Heap}
/-! ### is_letters -/
abbrev sLet : Stmt := top 22
theorem scLet : FnScope ["value", "letter"] ["value"] (defScope sLet) := ⟨rfl, rfl, rfl, by decide +kernel, rfl, by decide +kernel, by decide +kernel⟩
def isLet (z : Str) : Bool := z.cps.toList.all fun c => decide (c ∈ (Str.ofString "abcdefghijkl").cps.toList)
def spLet : Sp := fun vs H Q _ => ∃ z, vs = [.str z] ∧ z.length ≤ 1000 ∧ ∀ H', Same H H' → Q (.bl (isLet z)) H'
theorem ok_let (F : Fx K mg) (D : At K mg "is_letters" sLet) : Cal P w K mg base CX0 1 "is_letters" ["value"] spLet := by
  refine cal_of D scLet (fun vs H Q E h => ?_) (fun _ _ _ _ _ _ us hl => match us, hl with | [_], _ => rfl) fun f cdv A outer s H vs Q E hr h => ⟨_, PSs.nox (pss_one (ps_ret (pe_and (pe_isi (T := "str") (F.b "isinstance" (by decide)) (F.b "str" (by decide)) (pv 0)) (pe_one (pe_callB (cr_all rfl) (by rfl) (F.b "all" (by decide)) (by decide +kernel) (pa_cons
    (pe_lc (own := [("letter", 1)]) (g := gName 1) (tt := tYes) rfl scLet.nd (pi_str (pv 0)) (blkOk_by (N := ["value", "letter"]) (sc := defScope sLet) (by decide +kernel)) (fun _ _ _ _ _ => pg_name (i := 1) scLet.nd rfl (Or.inl rfl)) (fun _ _ _ _ _ => pts_nil)
      (fun _ _ _ _ _ => pe_cmpR op_in_sign (pv 1) (pe_gs F.c_checks) (by with_unfolding_all rfl))) pa_nil)))))), ?_⟩
  · obtain ⟨z, rfl, _⟩ := h
    rfl
  · obtain ⟨z, rfl, hz, hq⟩ := h
    refine ⟨_, rfl, _, .ty "str", _, _, _, rfl, .ty _, (Dv.tp (.str z)).ty, kit_str (.str z), _, rfl, iteT ⟨_, rfl, z, rfl, fun L hL => ?_⟩⟩
    refine lc_feed (n := z.length) feed_s (fun _ _ => True.intro) hL (by rw [sizeLine_eq]; omega) (fun i y _ => y = V.bl (opB (fun c => decide (c ∈ (Str.ofString "abcdefghijkl").cps.toList)) z.cps.toList[i]?)) (fun i y H H' _ e => e) (fun i x H' k hi hY sm hk => ?_) (fun H' ys hl hr hL' sm => ?_)
    · obtain ⟨c, hc, rfl⟩ := hY
      refine ⟨rfl, lc_yes ⟨_, rfl, c, _, rfl, rfl, hk _ _ (Same.refl _) ?_⟩⟩
      rw [hc]
      rfl
    · refine ⟨L, _, rfl, SqL.of (list_of hl hr ▸ hL'), ?_⟩
      have e : z.length = z.cps.toList.length := (Array.length_toList).symm
      rw [e, range_get]
      exact hq H' sm
end
end T83

set_option Elab.async false
set_option linter.all false
set_option maxRecDepth 100000
set_option maxHeartbeats 2000000
namespace T83
open PySem PySem.Spec PyProof.Rows L2 RZ
theorem pair_lay (q : Int × Int) : (dQ q).canLay0 = true := by
  unfold dQ
  rw [PyData.canLay0, PyData.canLayAll0, PyData.canLayAll0, PyData.canLayAll0, PyData.canLay0, PyData.canLay0]
  rfl
theorem prt_lay : ∀ ps : Prt, PyData.canLayAll0 (ps.map dQ) = true
  | [] => by
    show PyData.canLayAll0 [] = true
    rw [PyData.canLayAll0]
  | q :: ps => by
    show PyData.canLayAll0 (dQ q :: ps.map dQ) = true
    rw [PyData.canLayAll0, prt_lay ps, pair_lay q]
    rfl
theorem prt_shaped (ps : Prt) : SeqAt.shaped (dPr ps) = true := by
  have h := dQs_dep ps
  unfold SeqAt.shaped dPr
  rw [PyData.canLay0, prt_lay, Bool.true_and, decide_eq_true_eq, PyData.depth]
  omega
section
variable {P : Program} {w : World} {K : PySem.W.Frag} {mg : Str → Option Value} {base : Heap}
/-! ### are_parts -/
abbrev sParts : Stmt := top 38
abbrev nParts : List Str := ["size", "value", "one", "place", "part", "common"]
theorem scParts : FnScope nParts ["size", "value"] (defScope sParts) := ⟨rfl, rfl, rfl, by decide +kernel, rfl, by decide +kernel, by decide +kernel⟩
def gcdL (ps : Prt) : Nat := ps.foldl (fun g q => Nat.gcd g q.2.natAbs) 0
def okPr (size : Int) (ps : Prt) : Bool := !decide (ps = []) && (ps.all (fun q => wi 0 (size - 1) (.int q.1) && wi 1 (10 ^ 6) (.int q.2)) && (ascB (fun i j => decide (i < j)) (ps.map (·.1)) && decide (gcdL ps = 1)))
def spParts : Sp := fun vs H Q _ => ∃ (size : Int) (x : V) (ps : Prt), vs = [.int size, x] ∧ Tp H x (dPr ps) ∧ ps.length ≤ 100 ∧ ∀ H', Same H H' → Q (.bl (okPr size ps)) H'
theorem pair_of {H : Hp} {x : V} {q : Int × Int} (h : Tp H x (dQ q)) : ∃ b, x = .ref b ∧ H b = some (.tup [.int q.1, .int q.2]) := by
  cases h with
  | prt _ _ n => exact absurd (show false = true from n) (by decide)
  | @tup b xs _ h k _ =>
    cases k with
    | cons k1 k =>
      cases k with
      | cons k2 k =>
        cases k
        cases k1
        cases k2
        exact ⟨b, rfl, h⟩
def okQ (size : Int) (q : Int × Int) : Bool := wi 0 (size - 1) (.int q.1) && wi 1 (10 ^ 6) (.int q.2)
theorem ok_parts (F : Fx K mg) (D : At K mg "are_parts" sParts) (G1 : Cal P w K mg base CX0 1 "is_pair" ["value"] spIsPair) (G2 : Cal P w K mg base CX0 2 "is_within" ["value", "least", "most"] spIsWithin) (G3 : Cal P w K mg base CX0 1 "is_ascending" ["items"] (spAsc K)) : Cal P w K mg base CX0 3 "are_parts" ["size", "value"] spParts := by
  refine cal_of D scParts (fun vs H Q E h => ?_) (fun _ _ _ _ _ _ us hl => match us, hl with | [_, _], _ => rfl) fun f cdv A outer s H vs Q E hr h => ⟨_, PSs.nox (pss_cons (ps_if (pw_or (pt_not (pt_val (pe_isi (T := "tuple") (F.b "isinstance" (by decide)) (F.b "tuple" (by decide)) (pv 1)))) (pw_or (pt_cmpR (op_eqD hr.units) (pv 1) (pe_tup pa_nil) (nomark _))
      (pw_or1 (pt_not (pt_val (pe_callB (cr_all rfl) (by rfl) (F.b "all" (by decide)) (by decide +kernel) (pa_cons (pe_lc (own := [("one", 2)]) (g := gName 2) (tt := tYes) rfl scParts.nd (pi_tup (pv 1)) (blkOk_by (N := nParts) (sc := defScope sParts) (by decide +kernel)) (fun _ _ _ _ _ => pg_name (i := 2) scParts.nd rfl (Or.inl rfl)) (fun _ _ _ _ _ => pts_nil)
        (fun _ _ _ _ _ => pe_cal G1 (hr.mono (by decide)) (by rfl) pass0 (pa_cons (pv 2) pa_nil))) pa_nil))))))).pt (pss_one (ps_ret pe_bl)) pss_nil)
    (pss_cons (ps_if (pt_not (pt_val (pe_callB (cr_all rfl) (by rfl) (F.b "all" (by decide)) (by decide +kernel) (pa_cons (pe_lc (own := [("place", 3), ("part", 4)]) (g := gTup K 2 (gCons (gName 3) (gCons (gName 4) gNil))) (tt := tYes) rfl scParts.nd (pi_tup (pv 1)) (blkOk_by (N := nParts) (sc := defScope sParts) (by decide +kernel))
        (fun _ _ _ _ _ => pg_tup rfl (pgs_cons (pg_name (i := 3) scParts.nd rfl (Or.inl rfl)) (pgs_cons (pg_name (i := 4) scParts.nd rfl (Or.inl rfl)) pgs_nil))) (fun _ _ _ _ _ => pts_nil)
        (fun _ _ _ _ _ => pe_and (pe_cal G2 hr (by rfl) pass0 (pa_cons (pv 3) (pa_cons pe_int (pa_cons (pe_op op_sub (pv 0) pe_int) pa_nil)))) (pe_one (pe_cal G2 hr (by rfl) pass0 (pa_cons (pv 4) (pa_cons pe_int (pa_cons (pe_gi F.c_part) pa_nil))))))) pa_nil)))) (pss_one (ps_ret pe_bl)) pss_nil)
    (pss_cons (ps_if (pt_not (pt_val (pe_cal G3 (hr.mono (by decide)) (by rfl) pass0 (pa_cons (pe_lc (own := [("place", 3), ("part", 4)]) (g := gTup K 2 (gCons (gName 3) (gCons (gName 4) gNil))) (tt := tYes) rfl scParts.nd (pi_tup (pv 1)) (blkOk_by (N := nParts) (sc := defScope sParts) (by decide +kernel))
        (fun _ _ _ _ _ => pg_tup rfl (pgs_cons (pg_name (i := 3) scParts.nd rfl (Or.inl rfl)) (pgs_cons (pg_name (i := 4) scParts.nd rfl (Or.inl rfl)) pgs_nil))) (fun _ _ _ _ _ => pts_nil) (fun _ _ _ _ _ => pv 3)) pa_nil)))) (pss_one (ps_ret pe_bl)) pss_nil)
    (pss_cons (ps_set (i := 5) scParts.nd rfl (Or.inl rfl) pe_int)
    (pss_cons (ps_for PassesOwn.never rfl (pi_tup (pv 1)) (pg_tup (n := 2) rfl (pgs_cons (pg_name (i := 3) scParts.nd rfl (Or.inl rfl)) (pgs_cons (pg_name (i := 4) scParts.nd rfl (Or.inl rfl)) pgs_nil)))
        (pss_one (ps_set (i := 5) scParts.nd rfl (Or.inl rfl) (pe_callBfun cr_gcd (by rfl) F.gcd (pa_cons (pv 5) (pa_cons (pv 4) pa_nil))))))
    (pss_one (ps_ret (pe_cmpR op_eq (pv 5) pe_int (nomark _))))))))), ?_⟩
  · obtain ⟨size, x, ps, rfl, _⟩ := h
    rfl
  · obtain ⟨size, x, ps, rfl, ht, hl, hq⟩ := h
    obtain ⟨a, xs, ds, rfl, ed, ha, hds⟩ := tup_of (Dv.tp ht) rfl
    have ed2 : ds = ps.map dQ := by
      have := ed
      unfold dPr at this
      injection this with this
      exact this.symm
    subst ed2
    have xl : xs.length = ps.length := by rw [hds.len, List.length_map]
    refine ⟨_, rfl, _, .ty "tuple", _, _, _, rfl, .ty _, (Dv.tp ht).ty, kit_tuple (dPr ps), _, rfl, iteF ?_⟩
    refine ⟨_, rfl, by rw [sizeLine_eq]; decide, fun p hp => ?_⟩
    have s1 : Same H (upd H p (.tup [])) := same_laid hp
    refine ⟨dPr ps, .tuple [], (ht.keep s1.tups).dp, (Tp.tup upd_same .nil).dp, prt_shaped ps, by decide +kernel, ?_⟩
    refine ⟨_, rfl, ?_⟩
    by_cases hp0 : ps = []
    · subst hp0
      have e : PyData.eqv (dPr []) (.tuple []) = true := by decide +kernel
      rw [e]
      exact iteT (iteT (hq _ s1))
    · have e : PyData.eqv (dPr ps) (.tuple []) = false := by
        cases ps with
        | nil => exact absurd rfl hp0
        | cons q qs => rfl
      rw [e]
      refine iteF ⟨_, rfl, a, rfl, ⟨xs, .inl (s1.rd ha)⟩, fun L hL => ?_⟩
      have ha1 := s1.rd ha
      have hd1 := hds.keep s1.tups
      refine lc_feed (n := xs.length) feed_t (fun H' sm => sqt_same sm (.inl ha1)) hL (by rw [sizeLine_eq]; omega) (fun i y _ => y = V.bl true) (fun i y H H' _ e => e) (fun i x H' k hi hY sm hk => ?_) (fun H2 ys hl2 hr2 hL2 sm2 => ?_)
      · obtain ⟨d, hd2, hd3⟩ := hd1.get hY
        refine ⟨rfl, lc_yes ⟨_, rfl, x, d, rfl, .tp (hd3.keep sm.tups), hk _ _ (Same.refl _) ?_⟩⟩
        rw [List.getElem?_map] at hd2
        obtain ⟨q, _, rfl⟩ := Option.map_eq_some_iff.mp hd2
        rfl
      · refine ⟨L, _, rfl, SqL.of (list_of (f := fun _ => true) hl2 hr2 ▸ hL2), ?_⟩
        have e1 : ((List.range xs.length).map fun _ => true).all id = true := by simp
        rw [e1]
        refine ⟨_, rfl, iteF ?_⟩
        have s2 := s1.trans sm2
        have ha2 := s2.rd ha
        have hd2 := hds.keep s2.tups
        refine ⟨_, rfl, a, rfl, ⟨xs, .inl ha2⟩, fun L2 hL2 => ?_⟩
        refine lc_feed (n := xs.length) feed_t (fun H' sm => sqt_same sm (.inl ha2)) hL2 (by rw [sizeLine_eq]; omega) (fun i y _ => y = V.bl (opB (okQ size) ps[i]?)) (fun i y H H' _ e => e) (fun i x H' k hi hY sm hk => ?_) (fun H3 ys hl3 hr3 hL3 sm3 => ?_)
        · obtain ⟨d, hd3, hd4⟩ := hd2.get hY
          rw [List.getElem?_map] at hd3
          obtain ⟨q, hq1, rfl⟩ := Option.map_eq_some_iff.mp hd3
          obtain ⟨b, rfl, hb⟩ := pair_of (hd4.keep sm.tups)
          refine ⟨b, _, rfl, SqT.of hb, rfl, _, _, rfl, _, _, rfl, rfl, rfl, lc_yes ?_⟩
          rw [hq1] at hk
          refine ⟨_, rfl, _, rfl, _, _, rfl, rfl, _, _, 0, size - 1, rfl, .tp (.int q.1), _, rfl, ?_⟩
          cases c1 : wi 0 (size - 1) (.int q.1) with
          | false =>
            refine iteF (hk _ _ (Same.refl _) ?_)
            show _ = V.bl (wi 0 (size - 1) (.int q.1) && _)
            rw [c1]
            rfl
          | true =>
            refine iteT ⟨_, rfl, _, _, 1, 10 ^ 6, rfl, .tp (.int q.2), hk _ _ (Same.refl _) ?_⟩
            show _ = V.bl (wi 0 (size - 1) (.int q.1) && _)
            rw [c1]
            rfl
        · refine ⟨L2, _, rfl, SqL.of (list_of hl3 hr3 ▸ hL3), ?_⟩
          rw [xl, range_get]
          have s3 := s2.trans sm3
          refine ⟨_, rfl, ?_⟩
          have eP : okPr size ps = (ps.all (okQ size) && (ascB (fun i j => decide (i < j)) (ps.map (·.1)) && decide (gcdL ps = 1))) := by
            show (!decide (ps = []) && (ps.all (okQ size) && _)) = _
            rw [decide_eq_false hp0]
            rfl
          rw [eP] at hq
          cases hA : ps.all (okQ size) with
          | false =>
            rw [hA] at hq
            exact iteT (hq _ s3)
          | true =>
            rw [hA] at hq
            refine iteF ?_
            have ha3 := s3.rd ha
            have hd3 := hds.keep s3.tups
            refine ⟨_, rfl, a, rfl, ⟨xs, .inl ha3⟩, fun L3 hL3' => ?_⟩
            refine lc_feed (n := xs.length) feed_t (fun H' sm => sqt_same sm (.inl ha3)) hL3' (by rw [sizeLine_eq]; omega) (fun i y _ => ∃ q, ps[i]? = some q ∧ y = V.int q.1) (fun i y H H' _ e => e) (fun i x H' k hi hY sm hk => ?_) (fun H4 ys hl4 hr4 hL4 sm4 => ?_)
            · obtain ⟨d, hd5, hd6⟩ := hd3.get hY
              rw [List.getElem?_map] at hd5
              obtain ⟨q, hq1, rfl⟩ := Option.map_eq_some_iff.mp hd5
              obtain ⟨b, rfl, hb⟩ := pair_of (hd6.keep sm.tups)
              exact ⟨b, _, rfl, SqT.of hb, rfl, _, _, rfl, _, _, rfl, rfl, rfl, lc_yes ⟨_, rfl, hk _ _ (Same.refl _) ⟨q, hq1, rfl⟩⟩⟩
            · have eL : ys = (ps.map (·.1)).map V.int := by
                refine List.ext_getElem? fun i => ?_
                rw [List.map_map, List.getElem?_map]
                by_cases hi : i < ps.length
                · have hy : i < ys.length := by omega
                  rw [List.getElem?_eq_getElem hy]
                  obtain ⟨q, e1, e2⟩ := hr4 i _ (List.getElem?_eq_getElem hy)
                  rw [e1, e2]
                  rfl
                · rw [List.getElem?_eq_none (by omega), List.getElem?_eq_none (by omega)]
                  rfl
              rw [eL] at hL4
              refine ⟨L3, rfl, .inl ⟨ps.map (·.1), by rw [List.length_map]; omega, SqL.of hL4, fun H5 sm5 => ?_⟩⟩
              have s5 := (s3.trans sm4).trans sm5
              refine ⟨_, rfl, ?_⟩
              cases hB : ascB (fun i j => decide (i < j)) (ps.map (·.1)) with
              | false =>
                rw [hB] at hq
                exact iteT (hq _ s5)
              | true =>
                rw [hB] at hq
                refine iteF ?_
                have ha5 := s5.rd ha
                refine ⟨_, rfl, a, rfl, ⟨xs, .inl ha5⟩, ?_⟩
                refine for_tup (fun i σ H' => (∃ u3 u4, σ = [some (.int size), some (.ref a), none, u3, u4, some (.int ((gcdL (ps.take i) : Nat) : Int))]) ∧ Same H H') ⟨⟨none, none, rfl⟩, s5⟩ (fun i σ H' _ h => .inl (h.2.rd ha)) (fun i x σ H' hx hP => ?_) (fun σ H' hP => ?_)
                · obtain ⟨⟨u3, u4, rfl⟩, sm⟩ := hP
                  obtain ⟨d, hd7, hd8⟩ := (hds.keep sm.tups).get hx
                  rw [List.getElem?_map] at hd7
                  obtain ⟨q, hq1, rfl⟩ := Option.map_eq_some_iff.mp hd7
                  obtain ⟨b, rfl, hb⟩ := pair_of hd8
                  refine ⟨b, _, rfl, SqT.of hb, rfl, _, _, rfl, _, _, rfl, rfl, _, rfl, _, rfl, _, _, rfl, ⟨some (.int q.1), some (.int q.2), ?_⟩, sm⟩
                  have e : gcdL (ps.take (i + 1)) = Nat.gcd (gcdL (ps.take i)) q.2.natAbs := by
                    rw [List.take_add_one, hq1]
                    unfold gcdL
                    rw [Option.toList_some, List.foldl_append]
                    rfl
                  rw [e]
                  rfl
                · obtain ⟨⟨u3, u4, rfl⟩, sm⟩ := hP
                  rw [xl, List.take_length]
                  refine ⟨_, rfl, rfl, ?_⟩
                  have e : decide (V.int ((gcdL ps : Nat) : Int) = V.int 1) = decide (gcdL ps = 1) := decide_eq_decide.mpr ⟨fun h => by injection h with h; omega, fun h => by rw [h]; rfl⟩
                  rw [e]
                  exact hq _ sm
end
end T83

set_option Elab.async false
set_option linter.all false
set_option maxRecDepth 100000
set_option maxHeartbeats 2000000
namespace T83
open PySem PySem.Spec PyProof.Rows L2 RZ
section
variable {P : Program} {w : World} {K : PySem.W.Frag} {mg : Str → Option Value} {base : Heap}
/-! ### is_choice -/
abbrev sChoice : Stmt := top 39
theorem scChoice : FnScope ["size", "value"] ["size", "value"] (defScope sChoice) := ⟨rfl, rfl, rfl, by decide +kernel, rfl, by decide +kernel, by decide +kernel⟩
def okC (size : Int) (c : Chc) : Bool := wi 0 (10 ^ 6) (.int c.1) && okPr size c.2
def spChoice : Sp := fun vs H Q _ => ∃ (size : Int) (x : V) (c : Chc), vs = [.int size, x] ∧ Tp H x (dC c) ∧ c.2.length ≤ 100 ∧ ∀ H', Same H H' → Q (.bl (okC size c)) H'
theorem chc_of {H : Hp} {x : V} {c : Chc} (h : Tp H x (dC c)) : ∃ a y, x = .ref a ∧ H a = some (.tup [.int c.1, y]) ∧ Tp H y (dPr c.2) := by
  cases h with
  | prt _ _ n => exact absurd (show false = true from n) (by decide)
  | @tup b xs _ h k _ =>
    cases k with
    | cons k1 k =>
      cases k with
      | cons k2 k =>
        cases k
        cases k1
        exact ⟨b, _, rfl, h, k2⟩
theorem ok_choice (F : Fx K mg) (D : At K mg "is_choice" sChoice) (G1 : Cal P w K mg base CX0 1 "is_pair" ["value"] spIsPair) (G2 : Cal P w K mg base CX0 2 "is_within" ["value", "least", "most"] spIsWithin) (G3 : Cal P w K mg base CX0 3 "are_parts" ["size", "value"] spParts) : Cal P w K mg base CX0 4 "is_choice" ["size", "value"] spChoice := by
  refine cal_of D scChoice (fun vs H Q E h => ?_) (fun _ _ _ _ _ _ us hl => match us, hl with | [_, _], _ => rfl) fun f cdv A outer s H vs Q E hr h => ⟨_, PSs.nox (pss_one (ps_ret (pe_and (pe_cal G1 (hr.mono (by decide)) (by rfl) pass0 (pa_cons (pv 1) pa_nil)) (pe_and (pe_cal G2 (hr.mono (by decide)) (by rfl) pass0 (pa_cons (pe_ix ix_tup (pv 1) pe_int (fun _ _ => rfl)) (pa_cons pe_int (pa_cons (pe_gi F.c_price) pa_nil))))
    (pe_one (pe_cal G3 hr (by rfl) pass0 (pa_cons (pv 0) (pa_cons (pe_ix ix_tup (pv 1) pe_int (fun _ _ => rfl)) pa_nil)))))))), ?_⟩
  · obtain ⟨size, x, c, rfl, _⟩ := h
    rfl
  · obtain ⟨size, x, c, rfl, ht, hl, hq⟩ := h
    obtain ⟨a, y, rfl, ha, hy⟩ := chc_of ht
    refine ⟨_, rfl, _, dC c, rfl, .tp ht, true, rfl, iteT ?_⟩
    refine ⟨_, rfl, a, _, 0, _, rfl, rfl, SqT.of ha, rfl, _, _, 0, 10 ^ 6, rfl, .tp (.int c.1), _, rfl, ?_⟩
    have eC : okC size c = (wi 0 (10 ^ 6) (.int c.1) && okPr size c.2) := rfl
    rw [eC] at hq
    cases c1 : wi 0 (10 ^ 6) (.int c.1) with
    | false =>
      rw [c1] at hq
      exact iteF (hq H (Same.refl H))
    | true =>
      rw [c1] at hq
      exact iteT ⟨_, rfl, _, rfl, a, _, 1, _, rfl, rfl, SqT.of ha, rfl, size, y, c.2, rfl, hy, hl, hq⟩
end
end T83

set_option Elab.async false
set_option linter.all false
set_option maxRecDepth 100000
set_option maxHeartbeats 2000000
/-! enumerate of a tuple, walked -/
namespace T83
open PySem PySem.Spec PyProof.Rows L2 RZ
theorem draws_tuple {prog : Program} {w : World} {A : Around} (hh : A.handled = none) (it l : Addr) (hne : l ≠ it) (items : Array Value) :
    Draws prog w A it [it, l] items.size (fun i v => items[i]? = some v) (fun i h => h.IsTupleIter it l i ∧ h.IsTuple l items) where
  live := fun _ _ st => let ⟨o, ho, _⟩ := st.1; ⟨o, ho⟩
  frame := fun _ _ _ st hk => by
    obtain ⟨⟨o, ho, r⟩, ⟨o2, ho2, r2⟩⟩ := st
    exact ⟨⟨o, hk it (by simp) o ho, r⟩, ⟨o2, hk l (by simp) o2 ho2, r2⟩⟩
  item := fun i s Q E hi st hQ => by
    refine nextOf_tuple_item st.1 st.2 (x := items[i]) (by simp [hi]) fun h' hit' hs' => ?_
    exact hQ _ h' s.toks (by simp [hi]) ⟨hit', st.2.extBut hs'.extBut hne⟩ hs'
  done := fun s Q E st hE => nextOf_tuple_end hh st.1 st.2 (by simp) hE
theorem meets_enumerate_newT (l : Addr) (items : Array Value) :
    Meets (Builtin.«enumerate.__new__» ⟨[.type "enumerate", .ref l], []⟩) (fun _ R s => s.heap.IsTuple l items ∧
      R (.ok (.ret (.ref (s.heap.push { cls := .type "tuple_iterator", data := .fields #[.ref l, .int 0 0] }).objs.size)))
        { s with heap := (s.heap.push { cls := .type "tuple_iterator", data := .fields #[.ref l, .int 0 0] }).push { cls := .type "enumerate", data := .fields #[.none, .bool false, .ref s.heap.objs.size, rawInt 0, .none, .none] } }) :=
  .of_wp fun prog w A R s h => by
    obtain ⟨hp, g, d, tk, os⟩ := s; obtain ⟨hl, h⟩ := h
    have hsub := sub_enumerate
    have hL : Heap.IsTuple (Shared.heap ⟨hp, g, d, tk, os⟩) l items := hl
    wp_walk
    refine wpAny_stack_any fun st => wpAny_pure ?_
    split
    · rename_i c _ _ _ _ _
      cases (c == Value.type "enumerate")
      · wp_walk using wpAny_pyIter_tuple hL
        exact ⟨_, rfl, h⟩
      · wp_walk using wpAny_pyIter_tuple hL
        exact ⟨_, rfl, h⟩
    · wp_walk using wpAny_pyIter_tuple hL
      exact ⟨_, rfl, h⟩
section
variable {prog : Program} {w : World} {A : Around} {E : Value → Shared → Prop} {s : Shared}
theorem call_enumerate_tuple {l : Addr} {items : Array Value} {Q : Value → Shared → Prop} (hL : s.heap.IsTuple l items)
    (h : ∀ h', IsEnum h' (s.heap.objs.size + 1) s.heap.objs.size 0 .none → h'.IsTupleIter s.heap.objs.size l 0 → h'.objs.size = s.heap.objs.size + 2 →
      (∀ b o, s.heap.get? b = some o → h'.get? b = some o) → Q (.ref (s.heap.objs.size + 1)) { s with heap := h' }) :
    wpAny (model prog w) A (call (.type "enumerate") [.ref l]) Q E s := by
  refine callType_new F.called_enumerate (by decide) (F.typeCall_enumerate_1 _) (F.newCall_enumerate_1 _) (fun obj => F.args_object_init_2 obj _) F.entry_enumerate_new
    (meets_enumerate_newT l items) ⟨hL, ?_⟩
  have hz : (s.heap.push { cls := .type "tuple_iterator", data := .fields #[.ref l, .int 0 0] }).objs.size = s.heap.objs.size + 1 := Heap.size_push ..
  show _ ∧ _
  rw [hz]
  have he : IsEnum ((s.heap.push { cls := .type "tuple_iterator", data := .fields #[.ref l, .int 0 0] }).push
      { cls := .type "enumerate", data := .fields #[.none, .bool false, .ref s.heap.objs.size, rawInt 0, .none, .none] }) (s.heap.objs.size + 1) s.heap.objs.size 0 .none := by
    have := Heap.get?_push_size (s.heap.push { cls := .type "tuple_iterator", data := .fields #[.ref l, .int 0 0] })
      (o := { cls := .type "enumerate", data := .fields #[.none, .bool false, .ref s.heap.objs.size, rawInt 0, .none, .none] }) rfl
    rw [hz] at this; exact this
  refine ⟨⟨_, he, rfl⟩, h _ he ⟨_, Heap.get?_push_of_some _ (Heap.get?_push_size _ rfl), rfl, rfl⟩ (by rw [Heap.size_push, hz]) fun b o x => Heap.get?_push_of_some _ (Heap.get?_push_of_some _ x)⟩
theorem pyNext_enumT_end {e it l : Addr} {i : Nat} {items : Array Value} {old : Value} {Q : Option Value → Shared → Prop} (hh : A.handled = none)
    (he : IsEnum s.heap e it i old) (hit : s.heap.IsTupleIter it l i) (hl : s.heap.IsTuple l items) (hx : items[i]? = none)
    (hQ : ∀ h', Heap.ExtBut it s.heap h' → Q none { s with heap := h' }) : wpAny (model prog w) A (pyNext (.ref e)) Q E s := by
  have hT : s.TypeIs (.ref e) "enumerate" := ⟨_, he, rfl⟩
  unfold pyNext
  refine wpAny_bind (wpAny_attempt (wpAny_callSpecial?_slot (name := Str.ofString "__next__") hT F.slot_enumerate_next
    (wpAny_call_entry F.slot_enumerate_next hT F.entry_enumerate_next ?_ (F.args_enumerate_next_1 _))))
  show wpAny _ _ (field (.ref e) 2 >>= _) _ _ _
  refine wpAny_bind (wpAny_field he rfl (x := .ref it) rfl ?_)
  refine wpAny_bind (nextOf_tuple_end hh hit hl hx fun h' x he' hx' => ?_)
  obtain ⟨o, ho, hc⟩ := hx'
  refine wpAny_bind (wpAny_isInstance (T := "StopIteration") (b := true) ⟨o, ho, hc⟩ isSubtype_stop ?_)
  exact wpAny_pure (hQ _ he')
end
/-- the tuple at a as it stands at each turn, each item in a new pair -/
def IteT (K : PySem.W.Frag) (a : Addr) : It :=
  ⟨fun i H => ∃ (xs : List V) (x : V), SqT K H a xs ∧ xs[i]? = some x, fun i H v H' => ∃ T x, v = .ref T ∧ H T = none ∧ H' = upd H T (.tup [.int (i : Nat), x]) ∧ ∀ xs, SqT K H a xs → xs[i]? = some x, fun i H => ∃ xs : List V, SqT K H a xs ∧ xs.length ≤ i⟩
theorem turn_enumT {P : Program} {w : World} {K : PySem.W.Frag} {elts : List Expr} {kk : Nat} {tpos : Pos} (a e it : Addr) :
    Turn P w K (.Tuple elts kk tpos) (IteT K a) [e, it] e (fun i h => (∃ old, IsEnum h e it ((i : Nat) : Int) old) ∧ h.IsTupleIter it a i ∧ e ≠ it ∧ e ≠ a ∧ a ≠ it) where
  mem := by simp
  obj := fun i h st b hb => by
    obtain ⟨⟨old, he⟩, ⟨o, ho, hc, hd⟩, _⟩ := st
    have e' : b = e ∨ b = it := by simpa using hb
    rcases e' with z | z
    · rw [z]; exact ⟨_, he, fun v q => nomatch q⟩
    · rw [z]; exact ⟨o, ho, fun v q => by rw [hd] at q; cases q⟩
  keep := fun i h h' st k => by
    obtain ⟨⟨old, he⟩, ⟨o, ho, r⟩, hne⟩ := st
    exact ⟨⟨old, k e (by simp) _ he⟩, ⟨o, k it (by simp) o ho, r⟩, hne⟩
  item := by
    intro X hP hw hK hc i pins s σ H E I hf st hg
    subst hP hw hK
    obtain ⟨⟨old, he⟩, hit, hne, hea, hai⟩ := st
    obtain ⟨xs, x, hq, hx⟩ := hg
    obtain ⟨its, rv, p, hz⟩ := I.tuple hq
    obtain ⟨u, hu, ru⟩ := rv.get hx
    have hel : e < s.heap.objs.size := Heap.lt_size he
    have hil : it < s.heap.objs.size := by obtain ⟨_, q, _⟩ := hit; exact Heap.lt_size q
    have hh : (Around.in1 X.A).handled = none := I.ok.hd hc
    have hlt : i < its.toArray.size := by
      have := (List.getElem?_eq_some_iff.mp hu).1
      simpa using this
    refine wpAny_pyNext_enum_itemD (draws_tuple hh it a hai its.toArray) he ⟨hit, p⟩ hlt hne (by simp [hne, hea]) fun x' h' tk hP' ho hit' hT hsz hk => ?_
    have ex : x' = u := by
      rw [show its.toArray[i]? = some u by simpa using hu] at hP'
      exact (Option.some.inj hP').symm
    subst ex
    refine ⟨_, rfl, wpAny_letOwnedTupleGo_enum (s := { s with heap := h', toks := tk + 1 }) ho fun h'' he' sb => ?_⟩
    have hT2 : h''.get? s.heap.objs.size = some { cls := .type "tuple", data := .seq #[.int i tk, x'] } := (sb.2 _ (Nat.ne_of_gt hel)).trans hT
    have new : ObjOk X.prog X.w (upd H s.heap.objs.size (.tup [.int (i : Nat), x])) h'' s.heap.objs.size (.tup [.int (i : Nat), x]) :=
      ⟨by show 2 ≤ sizeLine; decide, [.int i tk, x'], .cons ⟨_, rfl⟩ (.cons ru .nil), ⟨_, hT2, rfl, _, rfl⟩⟩
    have I1 : Inv X pins σ (upd H s.heap.objs.size (.tup [.int (i : Nat), x])) { s with heap := h'', toks := tk + 1 } :=
      I.turnedNew (ch := [e, it]) (fun b ob hb q => (sb.2 b (fun z => hb (by simp [z]))).trans (hk b ob (fun z => hb (by simp [z])) (fun z => hb (by simp [z])) q)) hf (Nat.le_refl _) new
    refine ⟨.ref s.heap.objs.size, _, I1, rfl, ⟨_, x, rfl, I.hok.fresh (Nat.le_refl _), rfl, fun ys hy => by rw [I.tuple_inj hy hq]; exact hx⟩, ⟨⟨x', ?_⟩, ?_, hne, hea, hai⟩, fun b hb => ?_⟩
    · have e1 : ((i + 1 : Nat) : Int) = (i : Int) + 1 := by omega
      rw [e1]; exact he'
    · obtain ⟨⟨o, ho', r⟩, _⟩ := hit'
      exact ⟨o, (sb.2 it (Ne.symm hne)).trans ho', r⟩
    · have hb' : b < s.heap.objs.size := by
        have e' : b = e ∨ b = it := by simpa using hb
        rcases e' with z | z
        · rw [z]; exact hel
        · rw [z]; exact hil
      rw [upd_ne (Nat.ne_of_lt hb')]
      exact (hf b hb).1
  done := by
    intro X hP hw hK hc i pins s σ H E I hf st hg
    subst hP hw hK
    obtain ⟨⟨old, he⟩, hit, hne, hea, hai⟩ := st
    obtain ⟨xs, hq, hx⟩ := hg
    obtain ⟨its, rv, p, hz⟩ := I.tuple hq
    obtain ⟨f0, f1, f2, f3, f4, f5⟩ := hf it (by simp)
    have hl := rv.length
    exact pyNext_enumT_end (I.ok.hd hc) he hit p (by simp; omega) fun h' eb => ⟨rfl, I.turned (t' := s.toks) (fun b o hb q => eb b o hb q) f0 f1 f3 f4 f5⟩
  self := fun A i s Q E st h => let ⟨⟨_, he⟩, _⟩ := st; wpAny_pyIter_enum he h
/-- enumerate of a list, of a tuple -/
def iEnumA (K : PySem.W.Frag) (ta : TA) : TI := fun σ H R => ta σ H fun vs H1 => ∃ a xs, vs = [.ref a] ∧ ((SqL K H1 a xs ∧ R (Ite K a) H1) ∨ (SqT K H1 a xs ∧ R (IteT K a) H1))
theorem pi_enumA {X : Cx} {e : Expr} {ta : TA} {p pos tpos : Pos} {elts : List Expr} {kk : Nat} (hg : Gl X "enumerate") (hm : X.mg "enumerate" = none) (ha : PA X [e] ta) (hs : starEach [e] X.env = [(false, eval e X.env)] := by rfl) :
    PI X (.Tuple elts kk tpos) (.Call (.Name "enumerate" p) [e] [] pos) (iEnumA X.K ta) := by
  refine ⟨fun pins s σ H R I h => ?_⟩
  refine Call_ (ld_blt I hg hm boot_enumerate (PyProof.Rows.callWith_type1 (thn (ha.run pos pins s σ H _ I h) fun us s1 ⟨vs, H1, I1, r1, q1⟩ => ?_) hs rfl))
  obtain ⟨a, xs, ex, q1⟩ := q1
  subst ex
  cases r1 with
  | cons r rr =>
    cases rr
    cases r
    have fr : ∀ b, b ∈ [s1.heap.objs.size + 1, s1.heap.objs.size] → FpOk X pins H1 b := fun b hb => by
      have e' : b = s1.heap.objs.size + 1 ∨ b = s1.heap.objs.size := by simpa using hb
      have hle : s1.heap.objs.size ≤ b := by
        rcases e' with z | z
        · rw [z]; exact Nat.le_add_right _ _
        · rw [z]; exact Nat.le_refl _
      exact I1.fpOk hle (I1.hok.fresh hle)
    rcases q1 with ⟨hq, q⟩ | ⟨hq, q⟩
    · obtain ⟨its, rv, p', hz⟩ := I1.list hq
      refine call_enumerate_list p'.isList fun h' he hit hsz hk => wpAny_pyIter_enum he ?_
      have I2 : Inv X pins σ H1 { s1 with heap := h' } := I1.kept (t' := s1.toks) hk
      exact ⟨s1.heap.objs.size + 1, [s1.heap.objs.size + 1, s1.heap.objs.size], _, _, H1, rfl, I2, turn_enum a (s1.heap.objs.size + 1) s1.heap.objs.size, ⟨⟨.none, he⟩, hit, Nat.succ_ne_self _⟩, fr, q⟩
    · obtain ⟨its, rv, p', hz⟩ := I1.tuple hq
      have p2 : s1.heap.IsTuple a its.toArray := p'
      have hal : a < s1.heap.objs.size := by
        obtain ⟨o1, ho1, _⟩ := id p2
        exact Heap.lt_size ho1
      refine call_enumerate_tuple p2 fun h' he hit hsz hk => wpAny_pyIter_enum he ?_
      have I2 : Inv X pins σ H1 { s1 with heap := h' } := I1.kept (t' := s1.toks) hk
      exact ⟨s1.heap.objs.size + 1, [s1.heap.objs.size + 1, s1.heap.objs.size], _, _, H1, rfl, I2, turn_enumT a (s1.heap.objs.size + 1) s1.heap.objs.size, ⟨⟨.none, he⟩, hit, Nat.succ_ne_self _, (Nat.ne_of_lt (Nat.lt_succ_of_lt hal)).symm, Nat.ne_of_lt hal⟩, fr, q⟩
theorem walk_enumT {K : PySem.W.Frag} {a : Addr} {xs : List V} : Walk (IteT K a) xs.length (fun H => SqT K H a xs) (YPair (fun i => some (.int (i : Nat))) (fun i => xs[i]?)) := by
  refine ⟨fun i _ hi q => ⟨xs, xs[i], q, by simp [hi]⟩, fun _ q => ⟨xs, q, Nat.le_refl _⟩, fun i H v H' _ q y => ?_⟩
  obtain ⟨T, x, h1, h2, h3, h4⟩ := y
  exact ⟨T, .int (i : Nat), x, h1, h2, h3, rfl, h4 xs q⟩
end T83

set_option Elab.async false
set_option linter.all false
set_option maxRecDepth 100000
set_option maxHeartbeats 2000000
/-! what stays when a few objects change -/
namespace T83
open PySem PySem.Spec PyProof.Rows L2 LamX
/-- all but S stays -/
def Kp (S : List Addr) (H H' : Hp) : Prop := ∀ b o, H b = some o → b ∉ S → H' b = some o
theorem Kp.refl (S : List Addr) (H : Hp) : Kp S H H := fun _ _ h _ => h
theorem Kp.trans {S : List Addr} {H H1 H2 : Hp} (a : Kp S H H1) (b : Kp S H1 H2) : Kp S H H2 := fun c o h n => b c o (a c o h n) n
/-- S' : of S, or new -/
theorem Kp.more {S S' : List Addr} {H H1 H2 : Hp} (a : Kp S H H1) (b : Kp S' H1 H2) (n : ∀ c ∈ S', c ∈ S ∨ H c = none) : Kp S H H2 := fun c o h hc => b c o (a c o h hc) fun m => by
  rcases n c m with z | z
  · exact hc z
  · rw [h] at z
    cases z
theorem Kp.wide {S S' : List Addr} {H H' : Hp} (a : Kp S H H') (h : ∀ c ∈ S, c ∈ S' ∨ H c = none) : Kp S' H H' := fun c o e n => a c o e fun m => by
  rcases h c m with z | z
  · exact n z
  · rw [e] at z
    cases z
theorem Kp.of {S : List Addr} {H H' : Hp} (e : Same H H') : Kp S H H' := fun b o h _ => e b o h
theorem Kp.same {H H' : Hp} (a : Kp [] H H') : Same H H' := fun b o h => a b o h (by simp)
theorem kp_upd {S : List Addr} {H : Hp} {p : Addr} {o : HO} (h : p ∈ S ∨ H p = none) : Kp S H (upd H p o) := fun b u e n => by
  by_cases z : b = p
  · rw [z] at e n
    rcases h with h | h
    · exact absurd h n
    · rw [e] at h
      cases h
  · rw [upd_ne z]
    exact e
theorem Kp.put {S : List Addr} {H H' : Hp} {p : Addr} {o : HO} (a : Kp S H H') (h : p ∈ S ∨ H p = none) : Kp S H (upd H' p o) := fun b u e n => by
  by_cases z : b = p
  · rw [z] at e n
    rcases h with h | h
    · exact absurd h n
    · rw [e] at h
      cases h
  · rw [upd_ne z]
    exact a b u e n
/-- the written part aside, lists stand -/
def lsti : HO → Prop
  | .lst _ => True
  | .ins _ _ _ => True
  | _ => False
theorem not_lsti {o : HO} (t : tupl o) : ¬ lsti o := by
  cases o with
  | tup _ => exact fun z => z
  | frz _ _ => exact fun z => z
  | _ => exact absurd t (fun z => z)
theorem not_tbl {o : HO} (t : tupl o) : ∀ ps, o ≠ .tbl ps := fun ps z => by
  rw [z] at t
  exact t
/-- S: lists and instances alone -/
def Mu (H : Hp) (S : List Addr) : Prop := ∀ b ∈ S, ∃ o, H b = some o ∧ lsti o
theorem Mu.nil (H : Hp) : Mu H [] := fun b h => by cases h
theorem Mu.cons {H : Hp} {S : List Addr} {b : Addr} {o : HO} (h : H b = some o) (n : lsti o) (m : Mu H S) : Mu H (b :: S) := fun c hc => (List.mem_cons.mp hc).elim (fun z => ⟨o, by rw [z]; exact h, n⟩) (m c)
theorem Mu.not {H : Hp} {S : List Addr} (m : Mu H S) {b : Addr} {o : HO} (h : H b = some o) (n : ¬ lsti o) : b ∉ S := fun hb => by
  obtain ⟨u, e, q⟩ := m b hb
  rw [h] at e
  cases e
  exact n q
theorem Kp.at {S : List Addr} {H H' : Hp} (k : Kp S H H') (m : Mu H S) {b : Addr} {o : HO} (h : H b = some o) (n : ¬ lsti o) : H' b = some o := k b o h (m.not h n)
theorem Kp.tups {S : List Addr} {H H' : Hp} (k : Kp S H H') (m : Mu H S) : TupK H H' := fun a o h t => k.at m h (not_lsti t)
theorem Kp.tabs {S : List Addr} {H H' : Hp} (k : Kp S H H') (m : Mu H S) {T : List (Addr × Str)} (t : Tabs T H) : Tabs T H' := fun p hp => by
  obtain ⟨ps, h1, h2, h3⟩ := t p hp
  refine ⟨ps, k.at m h1 (fun z => z), h2, fun pos cv hc => ?_⟩
  obtain ⟨c, e1, e2⟩ := h3 pos cv hc
  exact ⟨c, e1, k.at m e2 (fun z => z)⟩
/-- tables aside -/
def Kt (S : List Addr) (H H' : Hp) : Prop := ∀ b o, H b = some o → b ∉ S → (∀ ps, o ≠ .tbl ps) → H' b = some o
theorem Kp.kt {S : List Addr} {H H' : Hp} (a : Kp S H H') : Kt S H H' := fun b o h n _ => a b o h n
theorem Kt.of {S : List Addr} {H H' : Hp} (a : ExtN H H') : Kt S H H' := fun b o h _ n => a b o h n
theorem Kt.refl (S : List Addr) (H : Hp) : Kt S H H := fun _ _ h _ _ => h
theorem Kt.trans {S : List Addr} {H H1 H2 : Hp} (a : Kt S H H1) (b : Kt S H1 H2) : Kt S H H2 := fun c o h n t => b c o (a c o h n t) n t
theorem Kt.more {S S' : List Addr} {H H1 H2 : Hp} (a : Kt S H H1) (b : Kt S' H1 H2) (n : ∀ c ∈ S', c ∈ S ∨ H c = none) : Kt S H H2 := fun c o h hc t => b c o (a c o h hc t) (fun m => by
  rcases n c m with z | z
  · exact hc z
  · rw [h] at z
    cases z) t
theorem Kt.wide {S S' : List Addr} {H H' : Hp} (a : Kt S H H') (h : ∀ c ∈ S, c ∈ S' ∨ H c = none) : Kt S' H H' := fun c o e n t => a c o e (fun m => by
  rcases h c m with z | z
  · exact n z
  · rw [e] at z
    cases z) t
theorem Kt.put {S : List Addr} {H H' : Hp} {p : Addr} {o : HO} (a : Kt S H H') (h : p ∈ S ∨ H p = none) : Kt S H (upd H' p o) := fun b u e n t => by
  by_cases z : b = p
  · rw [z] at e n
    rcases h with h | h
    · exact absurd h n
    · rw [e] at h
      cases h
  · rw [upd_ne z]
    exact a b u e n t
theorem Kt.at {S : List Addr} {H H' : Hp} (k : Kt S H H') (m : Mu H S) {b : Addr} {o : HO} (h : H b = some o) (n : ¬ lsti o) (t : ∀ ps, o ≠ .tbl ps) : H' b = some o := k b o h (m.not h n) t
theorem Kt.tups {S : List Addr} {H H' : Hp} (k : Kt S H H') (m : Mu H S) : TupK H H' := fun a o h t => k.at m h (not_lsti t) (not_tbl t)
end T83

set_option Elab.async false
set_option linter.all false
set_option maxRecDepth 100000
set_option maxHeartbeats 2000000
namespace T83
open PySem PySem.Spec PyProof.Rows L2
/-- (10 ** 57) ** 6 -/
theorem op_pow6 {X : Cx} : OpR X (binaryOp .Pow) (rI (fun i j => i = 10 ^ 57 ∧ j = 6) fun _ _ => .int (10 ^ 342)) := opI fun i j _ _ _ _ _ hc q => by
  obtain ⟨rfl, rfl⟩ := hc
  refine pow_int (by decide) (by decide +kernel) ?_
  rw [show ((10 : Int) ^ 57) ^ (6 : Int).toNat = 10 ^ 342 by decide +kernel]
  exact q
/-- a bowl: three numbers -/
def Bowl (H : Hp) (l : Addr) : Prop := ∃ b0 b1 b2 : Int, H l = some (.lst [.int b0, .int b1, .int b2])
theorem Bowl.ne {H : Hp} {l : Addr} (h : Bowl H l) : H l ≠ none := by
  obtain ⟨_, _, _, h⟩ := h
  rw [h]
  simp
theorem Bowl.mu {H : Hp} {l : Addr} (h : Bowl H l) : Mu H [l] := by
  obtain ⟨_, _, _, h⟩ := h
  exact Mu.cons h True.intro (Mu.nil H)
theorem Bowl.tups {H H' : Hp} {l : Addr} (h : Bowl H l) (k : Kp [l] H H') : TupK H H' := k.tups h.mu
theorem Bowl.same {H H' : Hp} {l : Addr} (h : Bowl H l) (k : Same H H') : Bowl H' l := by
  obtain ⟨a, b, c, h⟩ := h
  exact ⟨a, b, c, k _ _ h⟩
section
variable {P : Program} {w : World} {K : PySem.W.Frag} {mg : Str → Option Value} {base : Heap}
/-! ### _law_bowl -/
abbrev sBowl : Stmt := top 103
theorem scBowl : FnScope ["script", "spot", "cell", "great"] ["script", "spot"] (defScope sBowl) := ⟨rfl, rfl, rfl, by decide +kernel, rfl, by decide +kernel, by decide +kernel⟩
def spBowl (K : PySem.W.Frag) : Sp := fun vs H Q _ => ∃ (a : Addr) (ns : List Int) (j : Nat), vs = [.ref a, .int (j : Int)] ∧ SqL K H a (ns.map V.int) ∧ ∀ H' l, Same H H' → H l = none → Bowl H' l → Q (.ref l) H'
theorem cutV_ints (ns : List Int) (lo hi : Option Int) : ∃ ms : List Int, cutV (ns.map V.int) lo hi = ms.map V.int := by
  unfold cutV
  refine ⟨(ns.drop (HT.sIx (ns.map V.int).length 0 lo)).take (HT.sIx (ns.map V.int).length (ns.map V.int).length hi - HT.sIx (ns.map V.int).length 0 lo), ?_⟩
  rw [List.map_take, List.map_drop]
theorem ok_bowl (F : Fx K mg) (D : At K mg "_law_bowl" sBowl) : Cal P w K mg base CX0 1 "_law_bowl" ["script", "spot"] (spBowl K) := by
  refine cal_of D scBowl (fun vs H Q E h => ?_) (fun _ _ _ _ _ _ us hl => match us, hl with | [_, _], _ => rfl) fun f cdv A outer s H vs Q E hr h => ?_
  · obtain ⟨a, ns, j, rfl, _⟩ := h
    rfl
  · obtain ⟨a, ns, j, rfl, hS, hq⟩ := h
    have hT : ∃ tT : TS, PSs (cxOf CX0 P w K mg base ["script", "spot", "cell", "great"] "_law_bowl" (defScope sBowl) f cdv A outer s H E).nox ((defBody sBowl).drop 1) tT ∧
        ∀ c H1, Same H H1 → tT { nx := fun _ H' => Q .non H', rt := Q } [some (.ref a), some (.int (j : Int)), some (.int c), none] H1 := by
      refine ⟨_, pss_cons (ps_set (i := 3) scBowl.nd rfl (Or.inl rfl) (pe_op op_modN (pe_callTy call_int1 (by rfl) (F.b "int" (by decide)) (by decide +kernel) (pa_cons (pe_callB call_abs (by rfl) (F.b "abs" (by decide)) (by decide +kernel) (pa_cons (pv 2) pa_nil)) pa_nil)) (pe_op op_pow6 (pe_op op_pow pe_int pe_int) pe_int)))
    (pss_one (ps_ret (pe_lst (pa_cons (pe_callB (call_max2 rfl) (by rfl) (F.b "max" (by decide)) (by decide +kernel) (pa_cons pe_int (pa_cons (pe_op op_sub (pv 3) (pe_op op_pow pe_int pe_int)) pa_nil)))
      (pa_cons (pe_op op_add (pe_op op_add (pe_op op_add (pe_op op_mul (pe_op op_modN (pe_callTy call_int1 (by rfl) (F.b "int" (by decide)) (by decide +kernel) (pa_cons (pv 3) pa_nil)) pe_int) pe_int) (pe_op op_mul pe_int (pv 1))) (pe_op op_mul pe_int (pe_callTy call_int1 (by rfl) (F.b "int" (by decide)) (by decide +kernel) (pa_cons (pe_cmpR op_lt (pv 2) pe_int (nomark _)) pa_nil)))) pe_int)
      (pa_cons pe_int pa_nil)))))), fun c H1 sm => ?_⟩
      refine ⟨_, rfl, _, rfl, .inl ⟨_, rfl, _, _, rfl, rfl, ⟨by decide, by decide, by decide⟩, _, _, rfl, rfl, ⟨by decide +kernel, rfl⟩, _, _, rfl, rfl, (show ((10 : Int) ^ 342) ≠ 0 by decide +kernel), ?_⟩⟩
      refine ⟨_, rfl, _, _, rfl, rfl, ⟨by decide, by decide, by decide⟩, _, _, rfl, rfl, _, _, rfl, ?_⟩
      refine ⟨_, rfl, .inl ⟨_, rfl, _, _, rfl, rfl, (show (2147483563 : Int) ≠ 0 by decide), _, _, rfl, rfl, .inr ⟨by decide, by decide⟩, _, rfl, _, _, rfl, rfl, .inl ⟨by decide, by decide⟩, _, _, rfl, rfl, ?_⟩⟩
      refine ⟨_, rfl, _, _, rfl, rfl, .inr ⟨_, rfl, _, _, rfl, rfl, .inl ⟨by decide, by decide⟩, _, _, rfl, rfl, _, _, rfl, rfl, ?_⟩⟩
      refine ⟨by show 3 ≤ sizeLine; rw [sizeLine_eq]; decide, fun l hl => hq _ l ?_ ?_ ⟨_, _, _, upd_same⟩⟩
      · exact fun b o e => by
          have : b ≠ l := fun z => by
            have := sm b o e
            rw [z, hl] at this
            cases this
          rw [upd_ne this]
          exact sm b o e
      · exact sm.free hl
    obtain ⟨tT, hPS, hT⟩ := hT
    refine ⟨_, PSs.nox (pss_cons (ps_set (i := 2) scBowl.nd rfl (Or.inl rfl) (pe_ifExp (pt_cmpR op_lt (pv 1) (pe_callB call_len (by rfl) (F.b "len" (by decide)) boot_len (pa_cons (pv 0) pa_nil)) (nomark _))
        (pe_callTy call_int1 (by rfl) (F.b "int" (by decide)) (by decide +kernel) (pa_cons (pe_ix ix_list (pv 0) (pv 1) (fun _ _ => rfl)) pa_nil))
        (pe_op op_add (pe_op op_add (pe_op op_mul pe_int (pv 1)) pe_int) (pe_op op_modN (pe_callTy call_int1 (by rfl) (F.b "int" (by decide)) (by decide +kernel) (pa_cons (pe_callB (cr_sum rfl) (by rfl) (F.b "sum" (by decide)) (by decide +kernel) (pa_cons (pe_slice sl_list (pv 0) po_none (po_some pe_int)) pa_nil)) pa_nil)) pe_int)))) hPS), ?_⟩
    refine ⟨_, rfl, _, rfl, _, (ns.map V.int).length, rfl, .inl ⟨_, hS, rfl⟩, _, _, rfl, rfl, _, rfl, ?_⟩
    by_cases hj : (j : Int) < (((ns.map V.int).length : Nat) : Int)
    · rw [decide_eq_true hj]
      have hj' : j < ns.length := by
        rw [List.length_map] at hj
        omega
      refine iteT ⟨_, rfl, _, rfl, a, ns.map V.int, (j : Int), .int ns[j], rfl, rfl, hS, atI_nat (by rw [List.getElem?_map, List.getElem?_eq_getElem hj']; rfl), .inl ⟨_, rfl, hT _ _ (Same.refl H)⟩⟩
    · rw [decide_eq_false hj]
      obtain ⟨ms, hms⟩ := cutV_ints ns none (some 1)
      refine iteF ⟨_, rfl, _, _, rfl, rfl, .inl ⟨by decide, by decide⟩, _, _, rfl, rfl, _, rfl, _, rfl, a, ns.map V.int, rfl, hS, fun q hq' => ?_⟩
      refine ⟨q, ms, rfl, SqL.of (by rw [upd_same, hms]), .inl ⟨_, rfl, _, _, rfl, rfl, (show (1000003 : Int) ≠ 0 by decide), _, _, rfl, rfl, hT _ _ ?_⟩⟩
      exact fun b o e => by
        have : b ≠ q := fun z => by rw [z, hq'] at e; cases e
        rw [upd_ne this]
        exact e
/-! ### _law_scoop -/
abbrev sScoop : Stmt := top 104
theorem scScoop : FnScope ["bowl", "total", "found", "one", "two"] ["bowl", "total"] (defScope sScoop) := ⟨rfl, rfl, rfl, by decide +kernel, rfl, by decide +kernel, by decide +kernel⟩
def spScoop : Sp := fun vs H Q _ => ∃ (l : Addr) (t : Nat), vs = [.ref l, .int (t : Int)] ∧ 0 < t ∧ t < 2 ^ 30 ∧ Bowl H l ∧ ∀ (r : Nat) H', r < t → Kp [l] H H' → Bowl H' l → Q (.int (r : Int)) H'
theorem mod_nat (i : Int) {t : Nat} (ht : 0 < t) : ∃ r : Nat, r < t ∧ i.fmod (t : Int) = (r : Int) := by
  have h1 := Int.fmod_nonneg_of_pos i (show (0 : Int) < (t : Int) by omega)
  have h2 := Int.fmod_lt_of_pos i (show (0 : Int) < (t : Int) by omega)
  exact ⟨(i.fmod (t : Int)).toNat, by omega, by omega⟩
theorem ok_scoop (F : Fx K mg) (D : At K mg "_law_scoop" sScoop) : Cal P w K mg base CX0 1 "_law_scoop" ["bowl", "total"] spScoop := by
  refine cal_of D scScoop (fun vs H Q E h => ?_) (fun _ _ _ _ _ _ us hl => match us, hl with | [_, _], _ => rfl) fun f cdv A outer s H vs Q E hr h => ⟨_, PSs.nox (pss_cons (ps_if (pt_cmpR op_gt (pe_ix ix_list (pv 0) pe_int (fun _ _ => rfl)) pe_int (nomark _))
      (pss_cons (ps_set (i := 2) scScoop.nd rfl (Or.inl rfl) (pe_op op_modN (pe_callTy call_int1 (by rfl) (F.b "int" (by decide)) (by decide +kernel) (pa_cons (pe_ix ix_list (pv 0) pe_int (fun _ _ => rfl)) pa_nil)) (pv 1)))
      (pss_cons (ps_asg (pe_op op_fdivW (pe_ix ix_list (pv 0) pe_int (fun _ _ => rfl)) (pv 1)) (pg_sub (pv 0) pe_int set_list)) (pss_one (ps_ret (pv 2))))) pss_nil)
    (pss_cons (ps_asg (pe_op op_add (pe_ix ix_list (pv 0) pe_int (fun _ _ => rfl)) pe_int) (pg_sub (pv 0) pe_int set_list))
    (pss_cons (ps_set (i := 3) scScoop.nd rfl (Or.inl rfl) (pe_op op_modN (pe_callTy call_int1 (by rfl) (F.b "int" (by decide)) (by decide +kernel) (pa_cons (pe_op op_add (pe_ix ix_list (pv 0) pe_int (fun _ _ => rfl)) (pe_op op_mul pe_int (pe_ix ix_list (pv 0) pe_int (fun _ _ => rfl)))) pa_nil)) pe_int))
    (pss_cons (ps_set (i := 4) scScoop.nd rfl (Or.inl rfl) (pe_op op_add (pe_op op_mul (pe_op op_modN (pe_callTy call_int1 (by rfl) (F.b "int" (by decide)) (by decide +kernel) (pa_cons (pe_op op_add (pe_op op_mul (pv 3) (pv 3)) (pe_op op_mul pe_int (pe_ix ix_list (pv 0) pe_int (fun _ _ => rfl)))) pa_nil)) pe_int) pe_int) (pv 3)))
    (pss_one (ps_ret (pe_op op_modN (pe_callTy call_int1 (by rfl) (F.b "int" (by decide)) (by decide +kernel) (pa_cons (pe_op op_fdiv (pv 4) pe_int) pa_nil)) (pv 1)))))))), ?_⟩
  · obtain ⟨l, t, rfl, _⟩ := h
    rfl
  · obtain ⟨l, t, rfl, ht, ht2, ⟨b0, b1, b2, hl⟩, hq⟩ := h
    refine ⟨_, rfl, l, _, (0 : Int), _, rfl, rfl, SqL.of hl, atI_nat (j := 0) rfl, _, _, rfl, rfl, _, rfl, ?_⟩
    by_cases h0 : (0 : Int) < b0
    · rw [decide_eq_true h0]
      obtain ⟨r, hr1, hr2⟩ := mod_nat b0 ht
      refine iteT ⟨_, rfl, l, _, (0 : Int), _, rfl, rfl, SqL.of hl, atI_nat (j := 0) rfl, .inl ⟨_, rfl, _, rfl, _, _, rfl, rfl, (by omega : (t : Int) ≠ 0), ?_⟩⟩
      refine ⟨_, rfl, l, _, (0 : Int), _, rfl, rfl, SqL.of hl, atI_nat (j := 0) rfl, _, rfl, _, _, rfl, rfl, wide_div (b := 30) (by omega) (by omega) (by decide) (by decide), ?_⟩
      refine ⟨_, rfl, l, _, (0 : Int), 0, rfl, rfl, hl, rfl, _, rfl, ?_⟩
      have := hq r (upd H l (.lst [.int (b0 / (t : Int)), .int b1, .int b2])) hr1 (kp_upd (.inl (by simp))) ⟨_, _, _, upd_same⟩
      rw [← hr2] at this
      exact this
    · rw [decide_eq_false h0]
      refine iteF ⟨_, rfl, l, _, (2 : Int), _, rfl, rfl, SqL.of hl, atI_nat (j := 2) rfl, _, _, rfl, rfl, _, rfl, l, _, (2 : Int), 2, rfl, rfl, hl, rfl, ?_⟩
      have hl3 : (upd H l (.lst [V.int b0, .int b1, .int (b2 + 1)])) l = some (.lst [V.int b0, .int b1, .int (b2 + 1)]) := upd_same
      obtain ⟨one, ho1, ho2⟩ := mod_nat (b1 + 9699809 * (b2 + 1)) (t := 2305843009213693951) (by decide)
      refine ⟨_, rfl, l, _, (1 : Int), _, rfl, rfl, SqL.of hl3, atI_nat (j := 1) rfl, _, rfl, l, _, (2 : Int), _, rfl, rfl, SqL.of hl3, atI_nat (j := 2) rfl, _, _, rfl, rfl, .inl ⟨by decide, by decide⟩, _, _, rfl, rfl, .inl ⟨_, rfl, (b1 + 9699809 * (b2 + 1)), 2305843009213693951, rfl, rfl, (show (2305843009213693951 : Int) ≠ 0 by decide), ?_⟩⟩
      have hw : ∀ i : Nat, i < 2305843009213693951 → -(2 ^ 64) < (i : Int) ∧ (i : Int) < 2 ^ 64 := fun i h => by omega
      have ho3 : (fun i j : Int => V.int (i.fmod j)) (b1 + 9699809 * (b2 + 1)) 2305843009213693951 = V.int (one : Int) := congrArg V.int ho2
      show tSeq _ _ { nx := _, rt := Q } ([some (.ref l), some (.int (t : Int)), none, some ((fun i j : Int => V.int (i.fmod j)) (b1 + 9699809 * (b2 + 1)) 2305843009213693951), none]) (upd H l (.lst [V.int b0, .int b1, .int (b2 + 1)]))
      rw [ho3]
      obtain ⟨r, hr1, hr2⟩ := mod_nat (((one : Int) * one + 499 * (b2 + 1)).fmod 2305843009213693921 * 5800087 + one) (t := 65537) (by decide)
      refine ⟨_, rfl, _, rfl, _, _, rfl, rfl, .inl (hw _ ho1), _, rfl, l, _, (2 : Int), _, rfl, rfl, SqL.of hl3, atI_nat (j := 2) rfl, _, _, rfl, rfl, .inl ⟨by decide, by decide⟩, _, _, rfl, rfl, .inl ⟨_, rfl, _, _, rfl, rfl, (show (2305843009213693921 : Int) ≠ 0 by decide), _, _, rfl, rfl, .inr ⟨by decide, by decide⟩, _, rfl, _, _, rfl, rfl, ?_⟩⟩
      obtain ⟨q, hq1, hq2⟩ := mod_nat ((((one : Int) * one + 499 * (b2 + 1)).fmod 2305843009213693921 * 5800087 + one) / 65537) ht
      refine ⟨_, rfl, _, _, rfl, rfl, ⟨by decide, by decide⟩, .inl ⟨_, rfl, _, rfl, _, _, rfl, rfl, (by omega : (t : Int) ≠ 0), ?_⟩⟩
      have := hq q (upd H l (.lst [V.int b0, .int b1, .int (b2 + 1)])) hq1 (kp_upd (.inl (by simp))) ⟨_, _, _, upd_same⟩
      rw [← hq2] at this
      exact this
/-! ### _law_one_of -/
abbrev sOneOf : Stmt := top 105
theorem scOneOf : FnScope ["bowl", "items"] ["bowl", "items"] (defScope sOneOf) := ⟨rfl, rfl, rfl, by decide +kernel, rfl, by decide +kernel, by decide +kernel⟩
def spOneOf : Sp := fun vs H Q _ => ∃ l x, vs = [.ref l, x] ∧ Bowl H l ∧ ((∃ z, x = .str z ∧ 0 < z.length ∧ z.length ≤ 1000 ∧ ∀ c H', c ∈ z.cps.toList → Kp [l] H H' → Bowl H' l → Q (.str ⟨#[c]⟩) H') ∨
  (∃ (a : Addr) (zs : List V), x = .ref a ∧ H a = some (.lst zs) ∧ a ≠ l ∧ 0 < zs.length ∧ zs.length ≤ 1000 ∧ ∀ z H', z ∈ zs → Kp [l] H H' → Bowl H' l → Q z H'))
theorem ok_one_of (F : Fx K mg) (D : At K mg "_law_one_of" sOneOf) (G : Cal P w K mg base CX0 1 "_law_scoop" ["bowl", "total"] spScoop) : Cal P w K mg base CX0 2 "_law_one_of" ["bowl", "items"] spOneOf := by
  refine cal_of D scOneOf (fun vs H Q E h => ?_) (fun _ _ _ _ _ _ us hl => match us, hl with | [_, _], _ => rfl) fun f cdv A outer s H vs Q E hr h => ⟨_, PSs.nox (pss_one (ps_ret (pe_ix ix_seq (pv 1) (pe_cal G hr (by rfl) pass0 (pa_cons (pv 0) (pa_cons (pe_callB call_len (by rfl) (F.b "len" (by decide)) boot_len (pa_cons (pv 1) pa_nil)) pa_nil))) (fun _ _ => rfl)))), ?_⟩
  · obtain ⟨l, x, rfl, _⟩ := h
    rfl
  · obtain ⟨l, x, rfl, hB, h⟩ := h
    rcases h with ⟨z, rfl, h0, h1, hq⟩ | ⟨a, zs, rfl, ha, hne, h0, h1, hq⟩
    · refine ⟨_, rfl, _, rfl, _, rfl, _, z.length, rfl, ⟨by rw [sizeLine_eq]; omega, rfl⟩, l, z.length, rfl, h0, by omega, hB, fun r H' hr' k hB' => ?_⟩
      have hr2 : r < z.cps.toList.length := by rw [Array.length_toList]; exact hr'
      exact .inr (.inr ⟨z, (r : Int), z.cps.toList[r], rfl, rfl, by rw [sizeLine_eq]; omega, atI_nat (List.getElem?_eq_getElem hr2), hq _ H' (List.getElem_mem hr2) k hB'⟩)
    · refine ⟨_, rfl, _, rfl, _, rfl, _, (zs).length, rfl, .inl ⟨_, SqL.of ha, rfl⟩, l, zs.length, rfl, h0, by omega, hB, fun r H' hr' k hB' => ?_⟩
      exact .inl ⟨a, zs, (r : Int), zs[r], rfl, rfl, SqL.of (k a _ ha (by simpa using hne)), atI_nat (List.getElem?_eq_getElem hr'), hq _ H' (List.getElem_mem hr') k hB'⟩
end
end T83

set_option Elab.async false
set_option linter.all false
set_option maxRecDepth 100000
set_option maxHeartbeats 2000000
namespace T83
open PySem PySem.Spec PyProof.Rows L2 RZ
/-! ### machines as data -/
abbrev Mach : Type := Str × List (List Chc)
def dRow (r : List Chc) : PyData := .tuple (r.map dC)
def dM (m : Mach) : PyData := .tuple [.str m.1, .tuple (m.2.map dRow)]
def okRow (size : Int) (r : List Chc) : Bool := (decide (1 ≤ r.length) && decide (r.length ≤ 4)) && (r.all (okC size) && ascB ltC r)
def okM (m : Mach) : Bool := ((decide (1 ≤ m.1.length) && decide (m.1.length ≤ 16)) && isLet m.1) && (decide (m.2.length = m.1.length) && m.2.all (okRow m.1.length))
def okX : Option Mach → Bool
  | none => false
  | some m => okM m
structure Sml (m : Mach) : Prop where
  sg : m.1.length ≤ 1000
  rows : m.2.length ≤ 1000
  row : ∀ r ∈ m.2, r.length ≤ 100 ∧ ∀ c ∈ r, c.2.length ≤ 100
inductive MX (H : Hp) : V → Option Mach → Prop
  | non : MX H .non none
  | m {x : V} {m : Mach} (h : Tp H x (dM m)) (s : Sml m) : MX H x (some m)
theorem MX.keep {H H' : Hp} {x : V} {o : Option Mach} (h : MX H x o) (k : TupK H H') : MX H' x o := by
  cases h with
  | non => exact .non
  | m h s => exact .m (h.keep k) s
theorem prtB_row : ∀ r : List Chc, prtB (r.map dC) = false
  | [] => rfl
  | _ :: _ => rfl
theorem prtB_rows : ∀ rs : List (List Chc), prtB (rs.map dRow) = false
  | [] => rfl
  | [] :: _ => rfl
  | [_] :: _ => rfl
  | (_ :: _ :: []) :: _ => rfl
  | (_ :: _ :: _ :: _) :: _ => rfl
theorem mach_of {H : Hp} {x : V} {m : Mach} (h : Tp H x (dM m)) : ∃ a b xs, x = .ref a ∧ H a = some (.tup [.str m.1, .ref b]) ∧ H b = some (.tup xs) ∧ TpAll H xs (m.2.map dRow) := by
  cases h with
  | prt _ _ n => exact absurd (show false = true from n) (by decide)
  | @tup a ys _ h k _ =>
    cases k with
    | cons k1 k =>
      cases k with
      | cons k2 k =>
        cases k
        cases k1
        cases k2 with
        | prt _ _ n => exact absurd n (by rw [prtB_rows]; decide)
        | @tup b xs _ h2 k2 _ => exact ⟨a, b, xs, rfl, h, h2, k2⟩
theorem row_of {H : Hp} : ∀ {r : List Chc} {xs : List V}, TpAll H xs (r.map dC) → ∃ ks : List KC, ks.map (·.2) = r ∧ xs = rf ks ∧ TC H ks
  | [], _, h => by
    cases h
    exact ⟨[], rfl, rfl, fun p hp => by cases hp⟩
  | c :: r, _, h => by
    cases h with
    | cons h1 h2 =>
      obtain ⟨ks, e1, e2, e3⟩ := row_of h2
      obtain ⟨a, y, rfl, _⟩ := chc_of h1
      exact ⟨(a, c) :: ks, by rw [List.map_cons, e1], by rw [e2]; rfl, fun p hp => (List.mem_cons.mp hp).elim (fun z => z ▸ h1) (e3 p)⟩
theorem rowT_of {H : Hp} {x : V} {r : List Chc} (h : Tp H x (dRow r)) : ∃ (b : Addr) (ks : List KC), x = .ref b ∧ ks.map (·.2) = r ∧ H b = some (.tup (rf ks)) ∧ TC H ks := by
  cases h with
  | prt _ _ n => exact absurd n (by rw [prtB_row]; decide)
  | @tup b xs _ h k _ =>
    obtain ⟨ks, e1, rfl, e3⟩ := row_of k
    exact ⟨b, ks, rfl, e1, h, e3⟩
/-- the row at j -/
theorem rowAt {H : Hp} {xs : List V} {rs : List (List Chc)} {j : Nat} {r : List Chc} (h : TpAll H xs (rs.map dRow)) (hj : rs[j]? = some r) : ∃ (b : Addr) (ks : List KC), xs[j]? = some (.ref b) ∧ ks.map (·.2) = r ∧ H b = some (.tup (rf ks)) ∧ TC H ks := by
  have hl : xs.length = rs.length := by rw [h.len, List.length_map]
  have hj2 : j < xs.length := by
    rw [hl]
    exact (List.getElem?_eq_some_iff.mp hj).1
  obtain ⟨d, e1, e2⟩ := h.get (List.getElem?_eq_getElem hj2)
  rw [List.getElem?_map, hj] at e1
  cases e1
  obtain ⟨b, ks, e3, e4, e5, e6⟩ := rowT_of e2
  exact ⟨b, ks, by rw [List.getElem?_eq_getElem hj2, e3], e4, e5, e6⟩
theorem all_take {α : Type} {p : α → Bool} {l : List α} {i : Nat} {c : α} (h : (l.take i).all p = true) (hc : l[i]? = some c) (hp : p c = true) : (l.take (i + 1)).all p = true := by
  rw [List.take_add_one, hc, Option.toList_some, List.all_append, h, List.all_cons, hp]
  rfl
theorem all_no {α : Type} {p : α → Bool} {l : List α} {i : Nat} {c : α} (hc : l[i]? = some c) (hp : p c = false) : l.all p = false := by
  cases e : l.all p with
  | false => rfl
  | true =>
    have := List.all_eq_true.mp e c (List.mem_of_getElem? hc)
    rw [hp] at this
    cases this
section
variable {P : Program} {w : World} {K : PySem.W.Frag} {mg : Str → Option Value} {base : Heap}
/-! ### fault_in -/
abbrev sFault : Stmt := top 40
abbrev nFault : List Str := ["value", "signs", "rows", "place", "row", "index", "choice"]
theorem scFault : FnScope nFault ["value"] (defScope sFault) := ⟨rfl, rfl, rfl, by decide +kernel, rfl, by decide +kernel, by decide +kernel⟩
def spFault : Sp := fun vs H Q _ => ∃ x o, vs = [x] ∧ MX H x o ∧ ∀ v H', Same H H' → decide (v = V.non) = okX o → Q v H'
theorem two_le2 : 2 ≤ sizeLine := by
  rw [sizeLine_eq]
  decide
theorem three_le : 3 ≤ sizeLine := by
  rw [sizeLine_eq]
  decide
theorem ok_fault (F : Fx K mg) (D : At K mg "fault_in" sFault) (G1 : Cal P w K mg base CX0 1 "is_pair" ["value"] spIsPair) (G2 : Cal P w K mg base CX0 1 "is_letters" ["value"] spLet) (G3 : Cal P w K mg base CX0 4 "is_choice" ["size", "value"] spChoice) (G4 : Cal P w K mg base CX0 1 "is_ascending" ["items"] (spAsc K)) : Cal P w K mg base CX0 5 "fault_in" ["value"] spFault := by
  refine cal_of D scFault (fun vs H Q E h => ?_) (fun _ _ _ _ _ _ us hl => match us, hl with | [_], _ => rfl) fun f cdv A outer s H vs Q E hr h => ⟨_, PSs.nox (pss_cons (ps_if (pw_or (pt_not (pt_val (pe_cal G1 (hr.mono (by decide)) (by rfl) pass0 (pa_cons (pv 0) pa_nil)))) (pw_or (pt_not (pt_val (pe_isi (T := "str") (F.b "isinstance" (by decide)) (F.b "str" (by decide)) (pe_ix ix_tup (pv 0) pe_int (fun _ _ => rfl)))))
        (pw_or1 (pt_not (pt_val (pe_isi (T := "tuple") (F.b "isinstance" (by decide)) (F.b "tuple" (by decide)) (pe_ix ix_tup (pv 0) pe_int (fun _ _ => rfl)))))))).pt (pss_one (ps_ret pe_str)) pss_nil)
    (pss_cons (ps_asg (pv 0) (pg_tup (n := 2) rfl (pgs_cons (pg_name (i := 1) scFault.nd rfl (Or.inl rfl)) (pgs_cons (pg_name (i := 2) scFault.nd rfl (Or.inl rfl)) pgs_nil))))
    (pss_cons (ps_if (pw_or (pt_not (pt_chain op_le op_le pe_int (pe_callB call_len_str (by rfl) (F.b "len" (by decide)) boot_len (pa_cons (pv 1) pa_nil)) (pe_gi F.c_places))) (pw_or1 (pt_not (pt_val (pe_cal G2 (hr.mono (by decide)) (by rfl) pass0 (pa_cons (pv 1) pa_nil)))))).pt (pss_one (ps_ret pe_str)) pss_nil)
    (pss_cons (ps_if (pt_cmpR op_ne (pe_callB call_len (by rfl) (F.b "len" (by decide)) boot_len (pa_cons (pv 2) pa_nil)) (pe_callB call_len_str (by rfl) (F.b "len" (by decide)) boot_len (pa_cons (pv 1) pa_nil)) (nomark _)) (pss_one (ps_ret pe_str)) pss_nil)
    (pss_cons (ps_for PassesOwn.never rfl (pi_enumA (by rfl) (F.b "enumerate" (by decide)) (pa_cons (pv 2) pa_nil)) (pg_tup (n := 2) rfl (pgs_cons (pg_name (i := 3) scFault.nd rfl (Or.inl rfl)) (pgs_cons (pg_name (i := 4) scFault.nd rfl (Or.inl rfl)) pgs_nil)))
        (pss_cons (ps_if (pw_or (pt_not (pt_val (pe_isi (T := "tuple") (F.b "isinstance" (by decide)) (F.b "tuple" (by decide)) (pv 4)))) (pw_or1 (pt_not (pt_chain op_le op_le pe_int (pe_callB call_len (by rfl) (F.b "len" (by decide)) boot_len (pa_cons (pv 4) pa_nil)) (pe_gi F.c_choices))))).pt (pss_one (ps_ret (pe_tup (pa_cons pe_str (pa_cons (pv 3) pa_nil))))) pss_nil)
        (pss_cons (ps_for PassesOwn.never rfl (pi_enumA (by rfl) (F.b "enumerate" (by decide)) (pa_cons (pv 4) pa_nil)) (pg_tup (n := 2) rfl (pgs_cons (pg_name (i := 5) scFault.nd rfl (Or.inl rfl)) (pgs_cons (pg_name (i := 6) scFault.nd rfl (Or.inl rfl)) pgs_nil)))
            (pss_one (ps_if (pt_not (pt_val (pe_cal G3 hr (by rfl) pass0 (pa_cons (pe_callB call_len_str (by rfl) (F.b "len" (by decide)) boot_len (pa_cons (pv 1) pa_nil)) (pa_cons (pv 6) pa_nil))))) (pss_one (ps_ret (pe_tup (pa_cons pe_str (pa_cons (pv 3) (pa_cons (pv 5) pa_nil)))))) pss_nil)))
        (pss_one (ps_if (pt_not (pt_val (pe_cal G4 (hr.mono (by decide)) (by rfl) pass0 (pa_cons (pv 4) pa_nil)))) (pss_one (ps_ret (pe_tup (pa_cons pe_str (pa_cons (pv 3) pa_nil))))) pss_nil)))))
    (pss_one (ps_ret pe_non))))))), ?_⟩
  · obtain ⟨x, o, rfl, _⟩ := h
    rfl
  · obtain ⟨x, o, rfl, hx, hq⟩ := h
    cases hx with
    | non =>
      refine ⟨_, rfl, .non, .none, rfl, .tp .non, _, rfl, iteT (iteT (hq _ H (Same.refl H) (by decide)))⟩
    | @m _ m hm hs =>
      obtain ⟨a, b, xs, rfl, ha, hb, hxs⟩ := mach_of hm
      have xl : xs.length = m.2.length := by rw [hxs.len, List.length_map]
      have hsg := hs.sg
      have hrw := hs.rows
      refine ⟨_, rfl, _, _, rfl, .tp hm, _, rfl, iteF ?_⟩
      refine ⟨_, rfl, a, _, 0, _, rfl, rfl, SqT.of ha, rfl, _, .ty "str", _, _, _, rfl, .ty _, (Dv.tp (.str m.1)).ty, kit_str (.str m.1), _, rfl, iteF ?_⟩
      refine ⟨_, rfl, a, _, 1, _, rfl, rfl, SqT.of ha, rfl, _, .ty "tuple", _, _, _, rfl, .ty _, (Dv.tp (.tup hb hxs (prtB_rows _))).ty, kit_tuple (.tuple _), _, rfl, iteF ?_⟩
      have no : ∀ {v : V}, v ≠ .non → okM m = false → decide (v = V.non) = okX (some m) := fun h e => by
        rw [decide_eq_false h]
        exact e.symm
      have esg : ∀ b : Bool, ((decide (1 ≤ m.1.length) && decide (m.1.length ≤ 16)) && isLet m.1) = b → b = false → okM m = false := fun b h1 h2 => by
        unfold okM
        rw [h1, h2]
        rfl
      refine ⟨_, rfl, a, _, rfl, SqT.of ha, rfl, _, _, rfl, _, _, rfl, rfl, ?_⟩
      refine ⟨_, rfl, m.1, rfl, by rw [sizeLine_eq]; omega, 1, _, rfl, rfl, _, rfl, ?_⟩
      by_cases h1 : (1 : Int) ≤ (m.1.length : Int)
      rotate_left
      · rw [decide_eq_false h1]
        exact iteF ⟨_, rfl, iteT (iteT (hq _ H (Same.refl H) (no (fun z => by cases z) (esg _ (by rw [decide_eq_false (by omega : ¬ 1 ≤ m.1.length)]; rfl) rfl))))⟩
      rw [decide_eq_true h1]
      refine iteT ⟨_, _, rfl, rfl, _, rfl, ?_⟩
      by_cases h2 : (m.1.length : Int) ≤ 16
      rotate_left
      · rw [decide_eq_false h2]
        exact iteT (iteT (hq _ H (Same.refl H) (no (fun z => by cases z) (esg _ (by rw [decide_eq_false (by omega : ¬ m.1.length ≤ 16), Bool.and_false]; rfl) rfl))))
      rw [decide_eq_true h2]
      refine iteF ⟨_, rfl, m.1, rfl, hsg, fun H1 s1 => ⟨_, rfl, ?_⟩⟩
      cases h3 : isLet m.1 with
      | false => exact iteT (hq _ H1 s1 (no (fun z => by cases z) (esg _ (by rw [h3, Bool.and_false]) rfl)))
      | true =>
        refine iteF ?_
        refine ⟨_, rfl, _, xs.length, rfl, .inr ⟨_, SqT.of (s1 _ _ hb), rfl⟩, _, rfl, _, rfl, by rw [sizeLine_eq]; omega, rfl, ?_⟩
        have eok : okM m = (decide (m.2.length = m.1.length) && m.2.all (okRow m.1.length)) := by
          unfold okM
          rw [decide_eq_true (by omega : 1 ≤ m.1.length), decide_eq_true (by omega : m.1.length ≤ 16), h3]
          rfl
        refine ⟨_, rfl, ?_⟩
        by_cases h4 : m.2.length = m.1.length
        rotate_left
        · have e : (!decide (V.int ((xs.length : Nat) : Int) = V.int ((m.1.length : Nat) : Int))) = true := by
            rw [decide_eq_false (fun z => by injection z with z; omega)]
            rfl
          rw [e]
          refine iteT (hq _ H1 s1 (no (fun z => by cases z) ?_))
          rw [eok, decide_eq_false h4]
          rfl
        have e : (!decide (V.int ((xs.length : Nat) : Int) = V.int ((m.1.length : Nat) : Int))) = false := by
          rw [decide_eq_true (by rw [xl, h4])]
          rfl
        rw [e]
        have eok2 : okM m = m.2.all (okRow m.1.length) := by
          rw [eok, decide_eq_true h4]
          rfl
        have hb1 := s1 _ _ hb
        refine iteF ⟨_, rfl, b, xs, rfl, .inr ⟨SqT.of hb1, ?_⟩⟩
        refine for_it (n := xs.length) walk_enumT (fun i σ H' => (∃ u3 u4 u5 u6, σ = [some (.ref a), some (.str m.1), some (.ref b), u3, u4, u5, u6]) ∧ Same H1 H' ∧ (m.2.take i).all (okRow m.1.length) = true) ⟨⟨none, none, none, none, rfl⟩, Same.refl _, rfl⟩ (fun i σ H' _ h => SqT.of (h.2.1 _ _ hb1)) (fun i x σ H2 H3 hi hP hY => ?_) (fun σ H2 hP => ?_)
        rotate_left
        · obtain ⟨⟨u3, u4, u5, u6, rfl⟩, sm, hall⟩ := hP
          rw [xl, List.take_length] at hall
          exact hq _ _ (s1.trans sm) (by rw [show okX (some m) = true from eok2.trans hall]; rfl)
        obtain ⟨⟨u3, u4, u5, u6, rfl⟩, sm, hall⟩ := hP
        obtain ⟨T, x1, x2, rfl, hT, rfl, e1, e2⟩ := hY
        cases e1
        obtain ⟨r, hr1⟩ : ∃ r, m.2[i]? = some r := ⟨_, List.getElem?_eq_getElem (by omega)⟩
        obtain ⟨c, ks, e3, rfl, hc, hk⟩ := rowAt hxs hr1
        cases e2.symm.trans e3
        obtain ⟨hrl, hcl⟩ := hs.row _ (List.mem_of_getElem? hr1)
        rw [List.length_map] at hrl
        have sT : Same H (upd H2 T (.tup [.int ((i : Nat) : Int), .ref c])) := (s1.trans sm).trans (same_laid hT)
        refine ⟨T, _, rfl, SqT.of upd_same, rfl, _, _, rfl, _, _, rfl, rfl, ?_⟩
        have hcT := sT _ _ hc
        have hkT := tc_same sT hk
        refine ⟨_, rfl, _, .ty "tuple", _, _, _, rfl, .ty _, .base (.tup hcT), kit_tuple (.tuple []), _, rfl, iteF ?_⟩
        have krl : (rf ks).length = ks.length := List.length_map _
        have kcl : (ks.map (·.2)).length = ks.length := List.length_map _
        have bad : okRow m.1.length (ks.map (·.2)) = false → okM m = false := fun z => by
          rw [eok2]
          exact all_no hr1 z
        have badL : ∀ b : Bool, (decide (1 ≤ (ks.map (·.2)).length) && decide ((ks.map (·.2)).length ≤ 4)) = b → b = false → okM m = false := fun b h1 h2 => bad (by
          unfold okRow
          rw [h1, h2]
          rfl)
        refine ⟨_, rfl, _, (rf ks).length, rfl, .inr ⟨_, SqT.of hcT, rfl⟩, 1, _, rfl, rfl, _, rfl, ?_⟩
        by_cases g1 : (1 : Int) ≤ ((rf ks).length : Int)
        rotate_left
        · rw [decide_eq_false g1]
          exact iteF ⟨_, rfl, iteT ⟨_, rfl, two_le2, fun t ht => hq _ _ (sT.trans (same_laid ht)) (no (fun z => by cases z) (badL _ (by rw [decide_eq_false (by omega : ¬ 1 ≤ (ks.map (·.2)).length)]; rfl) rfl))⟩⟩
        rw [decide_eq_true g1]
        refine iteT ⟨_, _, rfl, rfl, _, rfl, ?_⟩
        by_cases g2 : ((rf ks).length : Int) ≤ 4
        rotate_left
        · rw [decide_eq_false g2]
          exact iteT ⟨_, rfl, two_le2, fun t ht => hq _ _ (sT.trans (same_laid ht)) (no (fun z => by cases z) (badL _ (by rw [decide_eq_false (by omega : ¬ (ks.map (·.2)).length ≤ 4), Bool.and_false]) rfl))⟩
        rw [decide_eq_true g2]
        have eokr : okRow m.1.length (ks.map (·.2)) = ((ks.map (·.2)).all (okC m.1.length) && ascB ltC (ks.map (·.2))) := by
          unfold okRow
          rw [decide_eq_true (by omega : 1 ≤ (ks.map (·.2)).length), decide_eq_true (by omega : (ks.map (·.2)).length ≤ 4)]
          rfl
        refine iteF ⟨_, rfl, c, rf ks, rfl, .inr ⟨SqT.of hcT, ?_⟩⟩
        refine for_it (n := (rf ks).length) walk_enumT (fun k σ H' => (∃ u5 u6, σ = [some (.ref a), some (.str m.1), some (.ref b), some (.int ((i : Nat) : Int)), some (.ref c), u5, u6]) ∧ Same (upd H2 T (.tup [.int ((i : Nat) : Int), .ref c])) H' ∧ ((ks.map (·.2)).take k).all (okC m.1.length) = true) ⟨⟨u5, u6, rfl⟩, Same.refl _, rfl⟩ (fun k σ H' _ h => SqT.of (h.2.1 _ _ hcT)) (fun k x σ H4 H5 hk hP hY => ?_) (fun σ H4 hP => ?_)
        · obtain ⟨⟨u5, u6, rfl⟩, sm4, hall4⟩ := hP
          obtain ⟨T4, x1, x2, rfl, hT4, rfl, e1, e2⟩ := hY
          cases e1
          have e2' : (ks.map fun p => V.ref p.1)[k]? = some x2 := e2
          rw [List.getElem?_map] at e2'
          obtain ⟨kc, hkc, rfl⟩ := Option.map_eq_some_iff.mp e2'
          have hkc2 : (ks.map (·.2))[k]? = some kc.2 := by rw [List.getElem?_map, hkc]; rfl
          have sT4 : Same (upd H2 T (.tup [.int ((i : Nat) : Int), .ref c])) (upd H4 T4 (.tup [.int ((k : Nat) : Int), .ref kc.1])) := sm4.trans (same_laid hT4)
          refine ⟨T4, _, rfl, SqT.of upd_same, rfl, _, _, rfl, _, _, rfl, rfl, ?_⟩
          refine ⟨_, rfl, m.1, rfl, by rw [sizeLine_eq]; omega, _, rfl, m.1.length, _, kc.2, rfl, (tc_same sT4 hkT) kc (List.mem_of_getElem? hkc), hcl kc.2 (List.mem_of_getElem? hkc2), fun H6 s6 => ⟨_, rfl, ?_⟩⟩
          cases g3 : okC m.1.length kc.2 with
          | false =>
            refine iteT ⟨_, rfl, _, rfl, three_le, fun t ht => hq _ _ ((sT.trans (sT4.trans s6)).trans (same_laid ht)) (no (fun z => by cases z) (bad ?_))⟩
            rw [eokr, all_no hkc2 g3]
            rfl
          | true => exact iteF ⟨⟨_, _, rfl⟩, sT4.trans s6, all_take hall4 hkc2 g3⟩
        · obtain ⟨⟨u5, u6, rfl⟩, sm4, hall4⟩ := hP
          rw [krl, ← kcl, List.take_length] at hall4
          refine ⟨_, rfl, c, rfl, .inr ⟨ks, by omega, SqT.of (sm4 _ _ hcT), tc_same sm4 hkT, fun z => by have z0 : ks.length = 0 := by { rw [z]; rfl }; omega, fun H6 s6 => ⟨_, rfl, ?_⟩⟩⟩
          cases g3 : ascB ltC (ks.map (·.2)) with
          | false =>
            refine iteT ⟨_, rfl, two_le2, fun t ht => hq _ _ ((sT.trans (sm4.trans s6)).trans (same_laid ht)) (no (fun z => by cases z) (bad ?_))⟩
            rw [eokr, g3, Bool.and_false]
          | true =>
            refine iteF ⟨⟨_, _, _, _, rfl⟩, (sm.trans (same_laid hT)).trans (sm4.trans s6), all_take hall hr1 ?_⟩
            rw [eokr, g3, hall4]
            rfl
end
end T83

set_option Elab.async false
set_option linter.all false
set_option maxRecDepth 100000
set_option maxHeartbeats 2000000
/-! tuples laid as known objects -/
namespace T83
open PySem PySem.Spec PyProof.Rows L2
/-- what is laid for a tuple: as a known object without a dict, or as a tuple -/
def TuB : Bool → List V → HO → Prop
  | true, ys, u => ∃ o : Obj, o.dict = none ∧ u = .frz o (.tup ys)
  | false, ys, u => u = .tup ys
theorem TuB.tupl {b : Bool} {ys : List V} {u : HO} (h : TuB b ys u) : tupl u := by
  cases b with
  | true =>
    obtain ⟨o, _, rfl⟩ := h
    exact True.intro
  | false =>
    cases h
    exact True.intro
theorem tp_of {H : Hp} {a : Addr} {xs : List V} {ds : List PyData} {u : HO} (t : TuB (prtB ds) xs u) (h : H a = some u) (k : TpAll H xs ds) : Tp H (.ref a) (.tuple ds) := by
  cases e : prtB ds with
  | true =>
    rw [e] at t
    obtain ⟨o, d, rfl⟩ := t
    exact .prt ⟨o, d, h⟩ k e
  | false =>
    rw [e] at t
    cases t
    exact .tup h k e
theorem TuB.rd {b : Bool} {ys : List V} {u : HO} (t : TuB b ys u) {H : Hp} {a : Addr} (h : H a = some u) : Rd H a (.tup ys) := by
  cases b with
  | true =>
    obtain ⟨o, _, rfl⟩ := t
    exact .inr ⟨o, h⟩
  | false =>
    cases t
    exact .inl h
def tTupF (b : Bool) (t : TA) : TE := fun σ H Q => t σ H fun xs H' => xs.length ≤ sizeLine ∧ ∀ a u, TuB b xs u → H' a = none → Q (.ref a) (upd H' a u)
section
variable {X : Cx} {es : List Expr} {t : TA} {pos : Pos}
theorem pe_tupF (b : Bool) {x1} (h : PA X es t) : PE X (.Tuple es x1 pos) (tTupF b t) := by
  refine ⟨fun pins s σ H Q I hq => ?_⟩
  refine wpAny_Tuple_spliced (thn (h.run pos pins s σ H _ I hq) fun us s1 ⟨xs, H1, I1, r, z, q⟩ => ⟨by rw [← r.length]; exact z, ?_⟩)
  have hf : H1 s1.heap.objs.size = none := I1.hok.fresh (Nat.le_refl _)
  cases b with
  | false =>
    refine ⟨.ref s1.heap.objs.size, upd H1 s1.heap.objs.size (.tup xs), I1.laid (t' := s1.toks) (fun b u e => Heap.get?_push_of_some _ e) (Nat.le_refl _) ?_, rfl, q _ _ rfl hf⟩
    exact ⟨z, us, r, ⟨_, Heap.get?_push_size _ rfl, rfl, _, rfl⟩⟩
  | true =>
    refine ⟨.ref s1.heap.objs.size, upd H1 s1.heap.objs.size (.frz { cls := .type "tuple", data := .seq us.toArray } (.tup xs)), I1.laid (t' := s1.toks) (fun b u e => Heap.get?_push_of_some _ e) (Nat.le_refl _) ?_, rfl, q _ _ ⟨_, rfl, rfl⟩ hf⟩
    exact ⟨Heap.get?_push_size _ rfl, z, us, r, ⟨_, Heap.get?_push_size _ rfl, rfl, _, rfl⟩⟩
theorem call_tupleF : CallR X (.type "tuple") (fun xs H Q => ∃ p ys b, xs = [.ref p] ∧ SqL X.K H p ys ∧ ∀ l u, TuB b ys u → H l = none → Q (.ref l) (upd H l u)) := by
  intro pins s σ H xs us Q I r h
  obtain ⟨p, ys, b, rfl, hq, q⟩ := h
  obtain ⟨u, rfl, rx⟩ := vals1 r
  cases rx
  obtain ⟨its, r', pl, hz⟩ := I.list hq
  have hlen := r'.length
  refine call_tuple_list pl.isList (fun h' kp => ?_) (by simp only [List.size_toArray] <;> omega)
  have I1 : Inv X pins σ H { s with heap := h' } := I.kept (t' := s.toks) kp
  cases b with
  | false =>
    have I2 : Inv X pins σ (upd H h'.objs.size (.tup ys)) { s with heap := h'.push { cls := .type "tuple", data := .seq its.toArray } } :=
      I1.laid (t' := s.toks) (fun b o e => Heap.get?_push_of_some _ e) (Nat.le_refl _) (show ObjOk X.prog X.w _ _ _ (.tup ys) from ⟨hz, its, r', IsTup.new _ _⟩)
    exact ⟨.ref h'.objs.size, _, I2, rfl, q _ _ rfl (I1.hok.fresh (Nat.le_refl _))⟩
  | true =>
    have I2 : Inv X pins σ (upd H h'.objs.size (.frz { cls := .type "tuple", data := .seq its.toArray } (.tup ys))) { s with heap := h'.push { cls := .type "tuple", data := .seq its.toArray } } :=
      I1.laid (t' := s.toks) (fun b o e => Heap.get?_push_of_some _ e) (Nat.le_refl _) (show ObjOk X.prog X.w _ _ _ (.frz _ (.tup ys)) from ⟨Heap.get?_push_size _ rfl, hz, its, r', IsTup.new _ _⟩)
    exact ⟨.ref h'.objs.size, _, I2, rfl, q _ _ ⟨_, rfl, rfl⟩ (I1.hok.fresh (Nat.le_refl _))⟩
end
end T83

set_option Elab.async false
set_option linter.all false
set_option maxRecDepth 100000
set_option maxHeartbeats 2000000
namespace T83
open PySem PySem.Spec PyProof.Rows L2 RZ
/-! ### raising -/
section
variable {P : Program} {w : World} {K : PySem.W.Frag} {mg : Str → Option Value} {base : Heap}
theorem pass {N : List Str} {q : Str} {sc : Scope} {f : Addr} {cdv : Value} {A : Around} {outer : List Env} {s : Shared} {H : Hp} {E : XK} : Passes (L2.CX P w) (cxOf (L2.CX P w) P w K mg base N q sc f cdv A outer s H E) E :=
  passes_call (takes_of rfl rfl rfl rfl) fun _ _ _ _ h => h
end
section
variable {X : Cx} {W : WX}
theorem ps_mach {m : Str} {j : Nat} {p p2 pos pos2 : Pos} (T : Fe X.prog X.K X.mg) (hc : X.calm = true) (tk : Takes X W) (hg : Gl X "InvalidMachine" := by rfl) :
    PS X (.Raise (some (.Call (.Name "InvalidMachine" p) [.Constant (.str m) j p2] [] pos)) none pos2) (fun _ σ H => W (.ref (cA X.K "InvalidMachine")) none σ H) :=
  ps_raise hc tk (pmk_own PySem.F.excBase_ValueError T.mach.xI (T.g _ (by decide)) T.mach.kI (raises_own T.mach.bI T.mach.tI) hg)
theorem ps_nam {m : Str} {j : Nat} {p p2 pos pos2 : Pos} (T : Fe X.prog X.K X.mg) (hc : X.calm = true) (tk : Takes X W) (hg : Gl X "InvalidName" := by rfl) :
    PS X (.Raise (some (.Call (.Name "InvalidName" p) [.Constant (.str m) j p2] [] pos)) none pos2) (fun _ σ H => W (.ref (cA X.K "InvalidName")) none σ H) :=
  ps_raise hc tk (pmk_own PySem.F.excBase_ValueError T.name.xI (T.g _ (by decide)) T.name.kI (raises_own T.name.bI T.name.tI) hg)
/-- the way out by an exception with one field -/
def BadN (E : XK) (C : Addr) (fl : Str) (v : V) (H : Hp) : Prop := ∀ d H', H d = none → Same H H' → H' d = some (.xd [(fl, v)]) → E (.ref C) (some d) H'
theorem BadN.trans {E : XK} {C : Addr} {fl : Str} {v : V} {H H1 : Hp} (h : BadN E C fl v H) (k : Same H H1) : BadN E C fl v H1 := fun d H' hd s hx => h d H' (k.free hd) (k.trans s) hx
def tXi (C : Addr) (fl : Str) (te : TE) : L2.St → Hp → XK → Prop := fun σ H Q => te σ H fun v H1 => BadN Q C fl v H1
theorem pe_clo {e : Expr} {t : TE} (h : PE X e t) : PE X e (fun σ H Q => ∃ Q0, t σ H Q0 ∧ ∀ v H', Q0 v H' → Q v H') :=
  ⟨fun pins s σ H Q I ⟨Q0, h0, hi⟩ => wpAny_mono (h.run pins s σ H Q0 I h0) (fun u s' ⟨v, H', J, r, q⟩ => ⟨v, H', J, r, hi v H' q⟩) fun _ _ z => z⟩
theorem pmk_xi {tl b0 : List Value} {nB newId i0 iB initId : String} {pn fl x : Str} {e : Expr} {te : TE} {p pos : Pos} (B : XB.BX tl nB newId i0 b0 iB initId) (T : Xi tl newId iB initId pn fl X.prog X.K X.mg x) (hm : X.mg x = some (.ref (cA X.K x))) (hr : Room 1 X.A) (hg : Gl X x) (he : PE X e te)
    (hdb : (x == ("__debug__" : Str)) = false := by decide) (hs : starEach [e] X.env = (false, eval e X.env) :: starEach [] X.env := by rfl) (hpl : (backTo pos (starEach [] X.env)).any (·.1) = false := by rfl) :
    PMk X (.Call (.Name x p) [e] [] pos) (tXi (cA X.K x) fl te) := by
  obtain ⟨fd, S, b⟩ := T.fd
  intro pins s σ H Q I h
  refine XB.pmk_at (CX := CX0) (k := 0) (sp := XB.spSup (cA X.K x) fl) B S.ox T.iI T.tI (XB.sup_ok (base := X.base) (P := X.prog) (w := X.w) B S CX0 0) hr b (fun _ _ _ _ _ _ _ h => h.elim) hg hm (pa_cons (pe_clo he) pa_nil hs) hdb hs hpl pins s σ H Q I ⟨_, h, fun v H1 hb => ?_⟩
  refine ⟨by show 1 ≤ 1000; decide, fun a na => ⟨a, v, rfl, upd_same, fun dx ndx hne => ⟨rfl, dx, [(fl, v)], upd_same, ?_, ?_, ?_⟩⟩⟩
  · rw [upd_ne hne, upd_same]
  · rw [upd_ne hne] at ndx
    exact ndx
  · rw [upd_ne hne] at ndx
    refine hb dx _ ndx (fun b o hb => ?_) upd_same
    have nb1 : b ≠ a := fun z => by rw [z, na] at hb; cases hb
    have nb2 : b ≠ dx := fun z => by rw [z, ndx] at hb; cases hb
    rw [upd_ne nb2, del_ne nb1, upd_ne nb1, upd_ne nb2, upd_ne nb1]
    exact hb
theorem ps_num {e : Expr} {te : TE} {p pos pos2 : Pos} (T : Fe X.prog X.K X.mg) (hc : X.calm = true) (hr : Room 1 X.A) (tk : Takes X W) (he : PE X e te) (hg : Gl X "InvalidNumber" := by rfl) (hs : starEach [e] X.env = (false, eval e X.env) :: starEach [] X.env := by rfl) (hpl : (backTo pos (starEach [] X.env)).any (·.1) = false := by rfl) :
    PS X (.Raise (some (.Call (.Name "InvalidNumber" p) [e] [] pos)) none pos2) (fun _ σ H => tXi (cA X.K "InvalidNumber") "value" te σ H fun cls d H' => W cls d σ H') :=
  ps_raise hc tk (pmk_xi XB.bx_I T.num (T.g _ (by decide)) hr hg he (by decide) hs hpl)
theorem ps_many {e : Expr} {te : TE} {p pos pos2 : Pos} (T : Fe X.prog X.K X.mg) (hc : X.calm = true) (hr : Room 1 X.A) (tk : Takes X W) (he : PE X e te) (hg : Gl X "TooMany" := by rfl) (hs : starEach [e] X.env = (false, eval e X.env) :: starEach [] X.env := by rfl) (hpl : (backTo pos (starEach [] X.env)).any (·.1) = false := by rfl) :
    PS X (.Raise (some (.Call (.Name "TooMany" p) [e] [] pos)) none pos2) (fun _ σ H => tXi (cA X.K "TooMany") "number" te σ H fun cls d H' => W cls d σ H') :=
  ps_raise hc tk (pmk_xi XB.bx_O T.many (T.g _ (by decide)) hr hg he (by decide) hs hpl)
theorem ps_unk {e : Expr} {te : TE} {p pos pos2 : Pos} (T : Fe X.prog X.K X.mg) (hc : X.calm = true) (hr : Room 1 X.A) (tk : Takes X W) (he : PE X e te) (hg : Gl X "UnknownName" := by rfl) (hs : starEach [e] X.env = (false, eval e X.env) :: starEach [] X.env := by rfl) (hpl : (backTo pos (starEach [] X.env)).any (·.1) = false := by rfl) :
    PS X (.Raise (some (.Call (.Name "UnknownName" p) [e] [] pos)) none pos2) (fun _ σ H => tXi (cA X.K "UnknownName") "name" te σ H fun cls d H' => W cls d σ H') :=
  ps_raise hc tk (pmk_xi XB.bx_K T.unk (T.g _ (by decide)) hr hg he (by decide) hs hpl)
theorem ps_noth {e : Expr} {te : TE} {p pos pos2 : Pos} (T : Fe X.prog X.K X.mg) (hc : X.calm = true) (hr : Room 1 X.A) (tk : Takes X W) (he : PE X e te) (hg : Gl X "NothingToUndo" := by rfl) (hs : starEach [e] X.env = (false, eval e X.env) :: starEach [] X.env := by rfl) (hpl : (backTo pos (starEach [] X.env)).any (·.1) = false := by rfl) :
    PS X (.Raise (some (.Call (.Name "NothingToUndo" p) [e] [] pos)) none pos2) (fun _ σ H => tXi (cA X.K "NothingToUndo") "wanted" te σ H fun cls d H' => W cls d σ H') :=
  ps_raise hc tk (pmk_xi XB.bx_R T.noth (T.g _ (by decide)) hr hg he (by decide) hs hpl)
end
section
variable {P : Program} {w : World} {K : PySem.W.Frag} {mg : Str → Option Value} {base : Heap}
/-! ### is_machine_in, size_of -/
abbrev sMachIn : Stmt := top 41
theorem scMachIn : FnScope ["value"] ["value"] (defScope sMachIn) := ⟨rfl, rfl, rfl, by decide +kernel, rfl, by decide +kernel, by decide +kernel⟩
def spMachIn : Sp := fun vs H Q _ => ∃ x o, vs = [x] ∧ MX H x o ∧ ∀ H', Same H H' → Q (.bl (okX o)) H'
theorem ok_mach_in (F : Fx K mg) (D : At K mg "is_machine_in" sMachIn) (G1 : Cal P w K mg base CX0 5 "fault_in" ["value"] spFault) : Cal P w K mg base CX0 6 "is_machine_in" ["value"] spMachIn := by
  refine cal_of D scMachIn (fun vs H Q E h => ?_) (fun _ _ _ _ _ _ us hl => match us, hl with | [_], _ => rfl) fun f cdv A outer s H vs Q E hr h => ⟨_, PSs.nox (pss_one (ps_ret (pe_cmpR op_isN (pe_cal G1 hr (by rfl) pass0 (pa_cons (pv 0) pa_nil)) pe_non (nomark _)))), ?_⟩
  · obtain ⟨x, o, rfl, _⟩ := h
    rfl
  · obtain ⟨x, o, rfl, hx, hq⟩ := h
    refine ⟨_, rfl, x, o, rfl, hx, fun v H' sm e => ⟨rfl, ?_⟩⟩
    rw [e]
    exact hq H' sm
abbrev sSize : Stmt := top 45
theorem scSize : FnScope ["machine"] ["machine"] (defScope sSize) := ⟨rfl, rfl, rfl, by decide +kernel, rfl, by decide +kernel, by decide +kernel⟩
def spSize : Sp := fun vs H Q _ => ∃ x m, vs = [x] ∧ Tp H x (dM m) ∧ m.1.length ≤ 1000 ∧ Q (.int m.1.length) H
theorem ok_size (F : Fx K mg) (D : At K mg "size_of" sSize) : Cal P w K mg base CX0 1 "size_of" ["machine"] spSize := by
  refine cal_of D scSize (fun vs H Q E h => ?_) (fun _ _ _ _ _ _ us hl => match us, hl with | [_], _ => rfl) fun f cdv A outer s H vs Q E hr h => ⟨_, PSs.nox (pss_one (ps_ret (pe_callB call_len_str (by rfl) (F.b "len" (by decide)) boot_len (pa_cons (pe_ix ix_tup (pv 0) pe_int (fun _ _ => rfl)) pa_nil)))), ?_⟩
  · obtain ⟨x, m, rfl, _⟩ := h
    rfl
  · obtain ⟨x, m, rfl, hx, hl, hq⟩ := h
    obtain ⟨a, b, xs, rfl, ha, hb, hxs⟩ := mach_of hx
    exact ⟨_, rfl, a, _, 0, _, rfl, rfl, SqT.of ha, rfl, _, rfl, by rw [sizeLine_eq]; omega, hq⟩
/-! ### require_machine, require_place, require_index, require_amount, require_steps -/
abbrev sRMach : Stmt := top 51
theorem scRMach : FnScope ["value"] ["value"] (defScope sRMach) := ⟨rfl, rfl, rfl, by decide +kernel, rfl, by decide +kernel, by decide +kernel⟩
def spRMach (K : PySem.W.Frag) : Sp := fun vs H Q E => ∃ x o, vs = [x] ∧ MX H x o ∧ (okX o = true → ∀ H', Same H H' → Q .non H') ∧ (okX o = false → ∀ H', Same H H' → E (.ref (cA K "InvalidMachine")) none H')
theorem ok_rmach (F : Fx K mg) (E0 : Fe P K mg) (D : At K mg "require_machine" sRMach) (G1 : Cal P w K mg base CX0 6 "is_machine_in" ["value"] spMachIn) : Cal P w K mg base (L2.CX P w) 7 "require_machine" ["value"] (spRMach K) := by
  refine cal_of D scRMach (fun vs H Q E h => ?_) (fun _ _ _ _ _ _ us hl => match us, hl with | [_], _ => rfl) fun f cdv A outer s H vs Q E hr h => ⟨_, pss_one (ps_if (pt_not (pt_val (pe_cal G1 hr (by rfl) pass0 (pa_cons (pv 0) pa_nil)))) (pss_one (ps_mach E0 rfl (takes_of rfl rfl rfl rfl))) pss_nil), ?_⟩
  · obtain ⟨x, o, rfl, _⟩ := h
    rfl
  · obtain ⟨x, o, rfl, hx, hq, hb⟩ := h
    refine ⟨_, rfl, x, o, rfl, hx, fun H' sm => ⟨_, rfl, ?_⟩⟩
    cases e : okX o with
    | false => exact iteT (hb e H' sm)
    | true => exact iteF (hq e H' sm)
abbrev sRPlace : Stmt := top 52
theorem scRPlace : FnScope ["machine", "value"] ["machine", "value"] (defScope sRPlace) := ⟨rfl, rfl, rfl, by decide +kernel, rfl, by decide +kernel, by decide +kernel⟩
/-- a number within bounds, or the number's error -/
def Wi (K : PySem.W.Frag) (a b : Int) (y : V) (d : PyData) (H : Hp) (Q : VK) (E : XK) : Prop := (wi a b d = true → Q .non H) ∧ (wi a b d = false → BadN E (cA K "InvalidNumber") "value" y H)
def spRPlace (K : PySem.W.Frag) : Sp := fun vs H Q E => ∃ x m y d, vs = [x, y] ∧ Tp H x (dM m) ∧ m.1.length ≤ 1000 ∧ Dv H y d ∧ Wi K 0 ((m.1.length : Int) - 1) y d H Q E
theorem ok_rplace (F : Fx K mg) (E0 : Fe P K mg) (D : At K mg "require_place" sRPlace) (G1 : Cal P w K mg base CX0 2 "is_within" ["value", "least", "most"] spIsWithin) (G2 : Cal P w K mg base CX0 1 "size_of" ["machine"] spSize) : Cal P w K mg base (L2.CX P w) 3 "require_place" ["machine", "value"] (spRPlace K) := by
  refine cal_of D scRPlace (fun vs H Q E h => ?_) (fun _ _ _ _ _ _ us hl => match us, hl with | [_, _], _ => rfl) fun f cdv A outer s H vs Q E hr h => ⟨_, pss_one (ps_if (pt_not (pt_val (pe_cal G1 hr (by rfl) pass0 (pa_cons (pv 1) (pa_cons pe_int (pa_cons (pe_op op_sub (pe_cal G2 (hr.mono (by decide)) (by rfl) pass0 (pa_cons (pv 0) pa_nil)) pe_int) pa_nil))))))
      (pss_one (ps_num E0 rfl (hr.mono (by decide)) (takes_of rfl rfl rfl rfl) (pv 1))) pss_nil), ?_⟩
  · obtain ⟨x, m, y, d, rfl, _⟩ := h
    rfl
  · obtain ⟨x, m, y, d, rfl, hx, hl, hd, hq, hb⟩ := h
    refine ⟨_, rfl, _, rfl, x, m, rfl, hx, hl, _, _, rfl, rfl, y, d, 0, _, rfl, hd, _, rfl, ?_⟩
    cases e : wi 0 ((m.1.length : Int) - 1) d with
    | false => exact iteT ⟨_, rfl, hb e⟩
    | true => exact iteF (hq e)
abbrev sRIndex : Stmt := top 53
theorem scRIndex : FnScope ["machine", "place", "value"] ["machine", "place", "value"] (defScope sRIndex) := ⟨rfl, rfl, rfl, by decide +kernel, rfl, by decide +kernel, by decide +kernel⟩
def spRIndex (K : PySem.W.Frag) : Sp := fun vs H Q E => ∃ x m j r y d, vs = [x, .int ((j : Nat) : Int), y] ∧ Tp H x (dM m) ∧ m.2[j]? = some r ∧ r.length ≤ 1000 ∧ Dv H y d ∧ Wi K 0 ((r.length : Int) - 1) y d H Q E
theorem ok_rindex (F : Fx K mg) (E0 : Fe P K mg) (D : At K mg "require_index" sRIndex) (G1 : Cal P w K mg base CX0 2 "is_within" ["value", "least", "most"] spIsWithin) : Cal P w K mg base (L2.CX P w) 3 "require_index" ["machine", "place", "value"] (spRIndex K) := by
  refine cal_of D scRIndex (fun vs H Q E h => ?_) (fun _ _ _ _ _ _ us hl => match us, hl with | [_, _, _], _ => rfl) fun f cdv A outer s H vs Q E hr h => ⟨_, pss_one (ps_if (pt_not (pt_val (pe_cal G1 hr (by rfl) pass0 (pa_cons (pv 2) (pa_cons pe_int (pa_cons (pe_op op_sub (pe_callB call_len (by rfl) (F.b "len" (by decide)) boot_len (pa_cons (pe_ix ix_tup (pe_ix ix_tup (pv 0) pe_int (fun _ _ => rfl)) (pv 1) (fun _ _ => rfl)) pa_nil)) pe_int) pa_nil))))))
      (pss_one (ps_num E0 rfl (hr.mono (by decide)) (takes_of rfl rfl rfl rfl) (pv 2))) pss_nil), ?_⟩
  · obtain ⟨x, m, j, r, y, d, rfl, _⟩ := h
    rfl
  · obtain ⟨x, m, j, r, y, d, rfl, hx, hj, hl, hd, hq, hb⟩ := h
    obtain ⟨a, b, xs, rfl, ha, hbb, hxs⟩ := mach_of hx
    obtain ⟨c, ks, e1, rfl, e3, e4⟩ := rowAt hxs hj
    have el : (rf ks).length = (ks.map (·.2)).length := by rw [List.length_map, List.length_map]
    refine ⟨_, rfl, _, rfl, a, _, 1, _, rfl, rfl, SqT.of ha, rfl, _, rfl, b, _, (j : Int), _, rfl, rfl, SqT.of hbb, atI_nat e1, _, _, rfl, .inr ⟨_, SqT.of e3, rfl⟩, _, _, rfl, rfl, y, d, 0, _, rfl, hd, _, rfl, ?_⟩
    rw [el]
    cases e : wi 0 (((ks.map (·.2)).length : Int) - 1) d with
    | false => exact iteT ⟨_, rfl, hb e⟩
    | true => exact iteF (hq e)
abbrev sRAmount : Stmt := top 96
theorem scRAmount : FnScope ["value", "most"] ["value", "most"] (defScope sRAmount) := ⟨rfl, rfl, rfl, by decide +kernel, rfl, by decide +kernel, by decide +kernel⟩
def spRAmount (K : PySem.W.Frag) : Sp := fun vs H Q E => ∃ y d b, vs = [y, .int b] ∧ Dv H y d ∧ Wi K 0 b y d H Q E
theorem ok_ramount (F : Fx K mg) (E0 : Fe P K mg) (D : At K mg "require_amount" sRAmount) (G1 : Cal P w K mg base CX0 2 "is_within" ["value", "least", "most"] spIsWithin) : Cal P w K mg base (L2.CX P w) 3 "require_amount" ["value", "most"] (spRAmount K) := by
  refine cal_of D scRAmount (fun vs H Q E h => ?_) (fun _ _ _ _ _ _ us hl => match us, hl with | [_, _], _ => rfl) fun f cdv A outer s H vs Q E hr h => ⟨_, pss_one (ps_if (pt_not (pt_val (pe_cal G1 hr (by rfl) pass0 (pa_cons (pv 0) (pa_cons pe_int (pa_cons (pv 1) pa_nil))))))
      (pss_one (ps_num E0 rfl (hr.mono (by decide)) (takes_of rfl rfl rfl rfl) (pv 0))) pss_nil), ?_⟩
  · obtain ⟨y, d, b, rfl, _⟩ := h
    rfl
  · obtain ⟨y, d, b, rfl, hd, hq, hb⟩ := h
    refine ⟨_, rfl, _, rfl, y, d, 0, b, rfl, hd, _, rfl, ?_⟩
    cases e : wi 0 b d with
    | false => exact iteT ⟨_, rfl, hb e⟩
    | true => exact iteF (hq e)
abbrev sRSteps : Stmt := top 101
theorem scRSteps : FnScope ["many", "there"] ["many", "there"] (defScope sRSteps) := ⟨rfl, rfl, rfl, by decide +kernel, rfl, by decide +kernel, by decide +kernel⟩
def spRSteps (K : PySem.W.Frag) : Sp := fun vs H Q E => ∃ y d n, vs = [y, .int n] ∧ Dv H y d ∧ (∀ i, d = .int i → 0 ≤ i → i ≤ n → Q .non H) ∧ (∀ i, d = .int i → 0 ≤ i → n < i → BadN E (cA K "NothingToUndo") "wanted" y H) ∧ ((∀ i, d = .int i → i < 0) → BadN E (cA K "InvalidNumber") "value" y H)
theorem ok_rsteps (F : Fx K mg) (E0 : Fe P K mg) (D : At K mg "require_steps" sRSteps) (G1 : Cal P w K mg base CX0 1 "is_whole" ["value"] spIsWhole) : Cal P w K mg base (L2.CX P w) 2 "require_steps" ["many", "there"] (spRSteps K) := by
  refine cal_of D scRSteps (fun vs H Q E h => ?_) (fun _ _ _ _ _ _ us hl => match us, hl with | [_, _], _ => rfl) fun f cdv A outer s H vs Q E hr h => ⟨_, pss_cons (ps_if (pw_or (pt_not (pt_val (pe_cal G1 hr (by rfl) pass0 (pa_cons (pv 0) pa_nil)))) (pw_or1 (pt_cmpR op_lt (pv 0) pe_int (nomark _)))).pt
      (pss_one (ps_num E0 rfl hr (takes_of rfl rfl rfl rfl) (pv 0))) pss_nil)
    (pss_one (ps_if (pt_cmpR op_gt (pv 0) (pv 1) (nomark _)) (pss_one (ps_noth E0 rfl hr (takes_of rfl rfl rfl rfl) (pv 0))) pss_nil)), ?_⟩
  · obtain ⟨y, d, n, rfl, _⟩ := h
    rfl
  · obtain ⟨y, d, n, rfl, hd, hq, hb, hc⟩ := h
    refine ⟨_, rfl, y, d, rfl, hd, _, rfl, ?_⟩
    cases e : isI d with
    | false => exact iteT (iteT ⟨_, rfl, hc fun i hi => by rw [hi] at e; cases e⟩)
    | true =>
      obtain ⟨i, rfl, rfl⟩ := isI_of hd e
      refine iteF ⟨_, rfl, _, _, rfl, rfl, _, rfl, ?_⟩
      by_cases h0 : i < 0
      · rw [decide_eq_true h0]
        exact iteT ⟨_, rfl, hc fun j hj => by injection hj with hj; omega⟩
      · rw [decide_eq_false h0]
        refine iteF ⟨_, rfl, _, rfl, _, _, rfl, rfl, _, rfl, ?_⟩
        by_cases h1 : n < i
        · rw [decide_eq_true h1]
          exact iteT ⟨_, rfl, hb i rfl (by omega) h1⟩
        · rw [decide_eq_false h1]
          exact iteF (hq i rfl (by omega) (by omega))
end
end T83

set_option Elab.async false
set_option linter.all false
set_option maxRecDepth 100000
set_option maxHeartbeats 2000000
namespace T83
open PySem PySem.Spec PyProof.Rows L2 RZ
theorem TpAll.set {H : Hp} {v : V} {d : PyData} (h : Tp H v d) : ∀ {vs : List V} {ds : List PyData} {j : Nat}, TpAll H vs ds → TpAll H (vs.set j v) (ds.set j d)
  | _, _, _, .nil => .nil
  | _, _, 0, .cons _ k => .cons h k
  | _, _, j + 1, .cons a k => .cons a (TpAll.set h k)
theorem row_mk {H : Hp} : ∀ {ks : List KC}, TC H ks → TpAll H (rf ks) ((ks.map (·.2)).map dC)
  | [], _ => .nil
  | p :: ks, h => .cons (h p List.mem_cons_self) (row_mk fun q hq => h q (List.mem_cons_of_mem _ hq))
theorem tc_srt {H : Hp} {ks : List KC} (h : TC H ks) : TC H (srt ks) := fun p hp => h p ((srt_perm ks).mem_iff.mp hp)
section
variable {P : Program} {w : World} {K : PySem.W.Frag} {mg : Str → Option Value} {base : Heap}
/-! ### is_name -/
abbrev sName : Stmt := top 95
theorem scName : FnScope ["value", "letter"] ["value"] (defScope sName) := ⟨rfl, rfl, rfl, by decide +kernel, rfl, by decide +kernel, by decide +kernel⟩
def isLow (z : Str) : Bool := z.cps.toList.all fun c => decide (c ∈ (Str.ofString "abcdefghijklmnopqrstuvwxyz").cps.toList)
def isNm : PyData → Bool
  | .str z => (decide ((1 : Int) ≤ (z.length : Int)) && decide ((z.length : Int) ≤ 8)) && isLow z
  | _ => false
def spName : Sp := fun vs H Q _ => ∃ x d, vs = [x] ∧ Dv H x d ∧ (∀ z, d = .str z → z.length ≤ 1000) ∧ ∀ H', Same H H' → Q (.bl (isNm d)) H'
theorem isS_of {H : Hp} {x : V} {d : PyData} (h : Dv H x d) (e : isS d = true) : ∃ z, x = .str z ∧ d = .str z := by
  cases h with
  | tp h => cases h <;> first | exact ⟨_, rfl, rfl⟩ | cases e
  | lst h => cases e
  | emp h => cases e
theorem ok_name (F : Fx K mg) (D : At K mg "is_name" sName) : Cal P w K mg base CX0 1 "is_name" ["value"] spName := by
  refine cal_of D scName (fun vs H Q E h => ?_) (fun _ _ _ _ _ _ us hl => match us, hl with | [_], _ => rfl) fun f cdv A outer s H vs Q E hr h => ⟨_, PSs.nox (pss_one (ps_ret (pe_and (pe_isi (T := "str") (F.b "isinstance" (by decide)) (F.b "str" (by decide)) (pv 0)) (pe_and (pe_chain op_le op_le pe_int (pe_callB call_len_str (by rfl) (F.b "len" (by decide)) boot_len (pa_cons (pv 0) pa_nil)) (pe_gi F.c_name)) (pe_one (pe_callB (cr_all rfl) (by rfl) (F.b "all" (by decide)) (by decide +kernel) (pa_cons
    (pe_lc (own := [("letter", 1)]) (g := gName 1) (tt := tYes) rfl scName.nd (pi_str (pv 0)) (blkOk_by (N := ["value", "letter"]) (sc := defScope sName) (by decide +kernel)) (fun _ _ _ _ _ => pg_name (i := 1) scName.nd rfl (Or.inl rfl)) (fun _ _ _ _ _ => pts_nil)
      (fun _ _ _ _ _ => pe_cmpR op_in_sign (pv 1) (pe_gs F.c_shelf) (by with_unfolding_all rfl))) pa_nil))))))), ?_⟩
  · obtain ⟨x, d, rfl, _⟩ := h
    rfl
  · obtain ⟨x, d, rfl, hd, hz, hq⟩ := h
    refine ⟨_, rfl, _, .ty "str", _, _, _, rfl, .ty _, hd.ty, kit_str d, _, rfl, ?_⟩
    cases hS : isS d with
    | false =>
      have e : isNm d = false := by cases d <;> first | rfl | cases hS
      rw [e] at hq
      exact iteF (hq _ (Same.refl H))
    | true =>
      obtain ⟨z, rfl, rfl⟩ := isS_of hd hS
      have hz := hz z rfl
      refine iteT ?_
      have en : isNm (.str z) = ((decide ((1 : Int) ≤ (z.length : Int)) && decide ((z.length : Int) ≤ 8)) && isLow z) := rfl
      refine ⟨_, rfl, z, rfl, by rw [sizeLine_eq]; omega, 1, _, rfl, rfl, _, rfl, ?_⟩
      cases g1 : decide ((1 : Int) ≤ (z.length : Int)) with
      | false =>
        rw [g1] at en
        rw [en] at hq
        exact iteF ⟨_, rfl, iteF (hq _ (Same.refl H))⟩
      | true =>
        rw [g1] at en
        refine iteT ⟨_, _, rfl, rfl, _, rfl, ?_⟩
        cases g2 : decide ((z.length : Int) ≤ 8) with
        | false =>
          rw [g2] at en
          rw [en] at hq
          exact iteF (hq _ (Same.refl H))
        | true =>
          rw [g2] at en
          refine iteT ⟨_, rfl, z, rfl, fun L hL => ?_⟩
          refine lc_feed (n := z.length) feed_s (fun _ _ => True.intro) hL (by rw [sizeLine_eq]; omega) (fun i y _ => y = V.bl (opB (fun c => decide (c ∈ (Str.ofString "abcdefghijklmnopqrstuvwxyz").cps.toList)) z.cps.toList[i]?)) (fun i y H H' _ e => e) (fun i x H' k hi hY sm hk => ?_) (fun H' ys hl hr hL' sm => ?_)
          · obtain ⟨c, hc, rfl⟩ := hY
            refine ⟨rfl, lc_yes ⟨_, rfl, c, _, rfl, rfl, hk _ _ (Same.refl _) ?_⟩⟩
            rw [hc]
            rfl
          · refine ⟨L, _, rfl, SqL.of (list_of hl hr ▸ hL'), ?_⟩
            have e : z.length = z.cps.toList.length := (Array.length_toList).symm
            rw [e, range_get]
            rw [en] at hq
            exact hq H' sm
/-! ### with_choices -/
abbrev sWithC : Stmt := top 97
abbrev nWithC : List Str := ["machine", "place", "row", "rows", "found"]
theorem scWithC : FnScope nWithC ["machine", "place", "row"] (defScope sWithC) := ⟨rfl, rfl, rfl, by decide +kernel, rfl, by decide +kernel, by decide +kernel⟩
/-- the machine with these choices at j, sorted -/
def withR (m : Mach) (j : Nat) (ks : List KC) : Mach := (m.1, m.2.set j ((srt ks).map (·.2)))
def spWithC (K : PySem.W.Frag) : Sp := fun vs H Q E => ∃ x m j l ks, vs = [x, .int ((j : Nat) : Int), .ref l] ∧ Tp H x (dM m) ∧ Sml m ∧ j < m.2.length ∧ SqL K H l (rf ks) ∧ TC H ks ∧ ks.length ≤ 100 ∧ (∀ p ∈ ks, p.2.2.length ≤ 100) ∧
  (okM (withR m j ks) = true → ∀ H' v, Same H H' → Tp H' v (dM (withR m j ks)) → Q v H') ∧ (okM (withR m j ks) = false → ∀ H', Same H H' → E (.ref (cA K "InvalidMachine")) none H')
theorem ok_withC (F : Fx K mg) (E0 : Fe P K mg) (D : At K mg "with_choices" sWithC) (G1 : Cal P w K mg base CX0 6 "is_machine_in" ["value"] spMachIn) : Cal P w K mg base (L2.CX P w) 7 "with_choices" ["machine", "place", "row"] (spWithC K) := by
  refine cal_of D scWithC (fun vs H Q E h => ?_) (fun _ _ _ _ _ _ us hl => match us, hl with | [_, _, _], _ => rfl) fun f cdv A outer s H vs Q E hr h => ⟨_, pss_cons (ps_set (i := 3) scWithC.nd rfl (Or.inl rfl) (pe_callTy call_list_of (by rfl) (F.b "list" (by decide)) (by decide +kernel) (pa_cons (pe_ix ix_tup (pv 0) pe_int (fun _ _ => rfl)) pa_nil)))
    (pss_cons (ps_asg (pe_callTy call_tuple_of (by rfl) (F.b "tuple" (by decide)) (by decide +kernel) (pa_cons (pe_callB (cr_sortC hr.units) (by rfl) (F.b "sorted" (by decide)) (by decide +kernel) (pa_cons (pv 2) pa_nil)) pa_nil)) (pg_sub (pv 3) (pv 1) set_list))
    (pss_cons (ps_set (i := 4) scWithC.nd rfl (Or.inl rfl) (pe_tup (pa_cons (pe_ix ix_tup (pv 0) pe_int (fun _ _ => rfl)) (pa_cons (pe_callTy call_tuple_of (by rfl) (F.b "tuple" (by decide)) (by decide +kernel) (pa_cons (pv 3) pa_nil)) pa_nil))))
    (pss_cons (ps_if (pt_not (pt_val (pe_cal G1 hr (by rfl) pass0 (pa_cons (pv 4) pa_nil)))) (pss_one (ps_mach E0 rfl (takes_of rfl rfl rfl rfl))) pss_nil)
    (pss_one (ps_ret (pv 4)))))), ?_⟩
  · obtain ⟨x, m, j, l, ks, rfl, _⟩ := h
    rfl
  · obtain ⟨x, m, j, l, ks, rfl, hx, hs, hj, hl, hk, hkl, hkp, hq, hb⟩ := h
    obtain ⟨a, b, xs, rfl, ha, hbb, hxs⟩ := mach_of hx
    have xl : xs.length = m.2.length := by rw [hxs.len, List.length_map]
    have hrw := hs.rows
    refine ⟨_, rfl, a, _, 1, _, rfl, rfl, SqT.of ha, rfl, b, xs, rfl, .inr (SqT.of hbb), fun r hr1 => ?_⟩
    have s1 : Same H (upd H r (.lst xs)) := same_laid hr1
    refine ⟨_, rfl, l, ks, rfl, s1.seq hl, tc_same s1 hk, fun p hp => ⟨p, _, rfl, .inl ⟨SqL.of upd_same, fun T hT => ?_⟩⟩⟩
    have s2 : Same (upd H r (.lst xs)) (upd (upd H r (.lst xs)) p (.lst (rf (srt ks)))) := same_laid hp
    have s3 : Same (upd (upd H r (.lst xs)) p (.lst (rf (srt ks)))) (upd (upd (upd H r (.lst xs)) p (.lst (rf (srt ks)))) T (.tup (rf (srt ks)))) := same_laid hT
    have hr3 := s3 _ _ (s2 _ _ (upd_same (H := H) (a := r) (o := .lst xs)))
    refine ⟨_, rfl, _, rfl, r, xs, (j : Int), j, rfl, rfl, hr3, ?ix, ?_⟩
    case ix =>
      unfold ixN
      rw [if_pos (by omega), if_pos (by omega)]
      rfl
    have sU : Same H (upd (upd (upd (upd H r (.lst xs)) p (.lst (rf (srt ks)))) T (.tup (rf (srt ks)))) r (.lst (xs.set j (.ref T)))) := fun c o e => by
      have h3 := s3 _ _ (s2 _ _ (s1 _ _ e))
      have : c ≠ r := fun z => by rw [z, hr1] at e; cases e
      rw [upd_ne this]
      exact h3
    generalize hH : upd (upd (upd (upd H r (.lst xs)) p (.lst (rf (srt ks)))) T (.tup (rf (srt ks)))) r (.lst (xs.set j (.ref T))) = HU at sU
    have hTU : HU T = some (.tup (rf (srt ks))) := by
      have : T ≠ r := fun z => by
        rw [z, s2 _ _ upd_same] at hT
        cases hT
      rw [← hH, upd_ne this, upd_same]
    have hrU : HU r = some (.lst (xs.set j (.ref T))) := by rw [← hH, upd_same]
    refine ⟨_, rfl, a, _, 0, _, rfl, rfl, SqT.of (sU _ _ ha), rfl, _, rfl, r, _, rfl, .inl ⟨SqL.of hrU, fun B hB => ⟨two_le2, fun M hM => ?_⟩⟩⟩
    have s5 : Same HU (upd HU B (.tup (xs.set j (.ref T)))) := same_laid hB
    have s6 : Same (upd HU B (.tup (xs.set j (.ref T)))) (upd (upd HU B (.tup (xs.set j (.ref T)))) M (.tup [.str m.1, .ref B])) := same_laid hM
    have sE := sU.trans (s5.trans s6)
    have hv : Tp (upd (upd HU B (.tup (xs.set j (.ref T)))) M (.tup [.str m.1, .ref B])) (.ref M) (dM (withR m j ks)) := by
      refine .tup upd_same (.cons (.str m.1) (.cons (.tup (s6 _ _ upd_same) ?_ (prtB_rows _)) .nil))
      show TpAll _ (xs.set j (.ref T)) ((m.2.set j ((srt ks).map (·.2))).map dRow)
      rw [List.map_set]
      exact TpAll.set (.tup (s6 _ _ (s5 _ _ hTU)) (row_mk (tc_same sE (tc_srt hk))) (prtB_row _)) (TpAll.keep sE.tups hxs)
    have sml : Sml (withR m j ks) := ⟨hs.sg, by show (m.2.set j _).length ≤ 1000; rw [List.length_set]; exact hrw, fun r hr => by
      rcases List.mem_or_eq_of_mem_set hr with z | z
      · exact hs.row r z
      · rw [z]
        refine ⟨by rw [List.length_map, (srt_perm ks).length_eq]; exact hkl, fun c hc => ?_⟩
        obtain ⟨q, hq, rfl⟩ := List.mem_map.mp hc
        exact hkp q ((srt_perm ks).mem_iff.mp hq)⟩
    refine ⟨_, rfl, _, some (withR m j ks), rfl, .m hv sml, fun H7 s7 => ⟨_, rfl, ?_⟩⟩
    show (if (!okM (withR m j ks)) = true then _ else _)
    cases e : okM (withR m j ks) with
    | false => exact iteT (hb e H7 (sE.trans s7))
    | true => exact iteF ⟨_, rfl, hq e H7 _ (sE.trans s7) (hv.keep s7.tups)⟩
end
end T83

set_option Elab.async false
set_option linter.all false
set_option maxRecDepth 100000
set_option maxHeartbeats 2000000
namespace T83
open PySem PySem.Spec PyProof.Rows L2
/-! ### plain dicts -/
section
variable {κ β : Type} [DecidableEq κ]
def getA (d : List (κ × β)) (k : κ) : Option β := (d.find? fun p => decide (p.1 = k)).map (·.2)
def putA (d : List (κ × β)) (k : κ) (v : β) : List (κ × β) := if (d.any fun p => decide (p.1 = k)) = true then d.map (fun p => if p.1 = k then (p.1, v) else p) else d ++ [(k, v)]
def delA (d : List (κ × β)) (k : κ) : List (κ × β) := d.filter fun p => decide (p.1 ≠ k)
theorem getA_cons (p : κ × β) (d : List (κ × β)) (k : κ) : getA (p :: d) k = if p.1 = k then some p.2 else getA d k := by
  unfold getA
  rw [List.find?_cons]
  by_cases h : p.1 = k
  · simp [h]
  · simp [h]
theorem getA_any (d : List (κ × β)) (k : κ) : (d.any fun p => decide (p.1 = k)) = (getA d k).isSome := by
  induction d with
  | nil => rfl
  | cons p d ih =>
    rw [List.any_cons, ih, getA_cons]
    by_cases h : p.1 = k <;> simp [h]
theorem getA_none {d : List (κ × β)} {k : κ} : getA d k = none ↔ k ∉ d.map (·.1) := by
  induction d with
  | nil => simp [getA]
  | cons p d ih =>
    rw [getA_cons, List.map_cons, List.mem_cons]
    by_cases h : p.1 = k
    · simp [h]
    · rw [if_neg h, ih]
      constructor
      · intro a b
        rcases b with b | b
        · exact h b.symm
        · exact a b
      · exact fun a b => a (.inr b)
theorem getA_mem {d : List (κ × β)} {k : κ} {v : β} (h : getA d k = some v) : (k, v) ∈ d := by
  induction d with
  | nil => simp [getA] at h
  | cons p d ih =>
    rw [getA_cons] at h
    by_cases e : p.1 = k
    · rw [if_pos e] at h
      cases h
      rw [← e]
      exact List.mem_cons_self
    · rw [if_neg e] at h
      exact List.mem_cons_of_mem _ (ih h)
theorem getA_of {d : List (κ × β)} (nd : (d.map (·.1)).Nodup) {k : κ} {v : β} (h : (k, v) ∈ d) : getA d k = some v := by
  induction d with
  | nil => cases h
  | cons p d ih =>
    rw [List.map_cons, List.nodup_cons] at nd
    rw [getA_cons]
    rcases List.mem_cons.mp h with e | e
    · rw [← e, if_pos rfl]
    · have : p.1 ≠ k := fun z => nd.1 (List.mem_map.mpr ⟨_, e, z.symm⟩)
      rw [if_neg this]
      exact ih nd.2 e
theorem putA_keys (d : List (κ × β)) (k : κ) (v : β) : (putA d k v).map (·.1) = if k ∈ d.map (·.1) then d.map (·.1) else d.map (·.1) ++ [k] := by
  unfold putA
  rw [getA_any]
  cases e : getA d k with
  | none =>
    rw [if_neg (by simp), if_neg (getA_none.mp e), List.map_append]
    rfl
  | some x =>
    rw [if_pos (show (some x).isSome = true from rfl), if_pos (List.mem_map.mpr ⟨_, getA_mem e, rfl⟩), List.map_map]
    refine List.map_congr_left fun p _ => ?_
    show (if p.1 = k then (p.1, v) else p).1 = p.1
    split <;> rfl
theorem putA_nodup {d : List (κ × β)} {k : κ} {v : β} (nd : (d.map (·.1)).Nodup) : ((putA d k v).map (·.1)).Nodup := by
  rw [putA_keys]
  split
  · exact nd
  · rename_i h
    refine List.nodup_append.mpr ⟨nd, by simp, fun a ha b hb => ?_⟩
    rw [List.mem_singleton] at hb
    rw [hb]
    exact fun z => h (z ▸ ha)
theorem getA_map {k : κ} {v : β} {j : κ} : ∀ d : List (κ × β), getA (d.map fun p => if p.1 = k then (p.1, v) else p) j = (getA d j).map fun x => if j = k then v else x
  | [] => rfl
  | p :: d => by
    rw [List.map_cons, getA_cons, getA_cons, getA_map d]
    by_cases h : p.1 = k
    · rw [if_pos h]
      by_cases e : p.1 = j
      · rw [if_pos e, if_pos e, Option.map_some, if_pos (e.symm.trans h)]
      · rw [if_neg e, if_neg e]
    · rw [if_neg h]
      by_cases e : p.1 = j
      · rw [if_pos e, if_pos e, Option.map_some, if_neg (fun z => h (e.trans z))]
      · rw [if_neg e, if_neg e]
theorem getA_app {k : κ} {v : β} {j : κ} : ∀ d : List (κ × β), getA (d ++ [(k, v)]) j = match getA d j with | some x => some x | none => if k = j then some v else none
  | [] => by
    show getA [(k, v)] j = _
    rw [getA_cons]
    rfl
  | p :: d => by
    rw [List.cons_append, getA_cons, getA_cons, getA_app d]
    by_cases e : p.1 = j
    · rw [if_pos e, if_pos e]
    · rw [if_neg e, if_neg e]
theorem getA_put (d : List (κ × β)) (k : κ) (v : β) (j : κ) : getA (putA d k v) j = if j = k then some v else getA d j := by
  unfold putA
  rw [getA_any]
  cases e : getA d k with
  | none =>
    rw [if_neg (by simp), getA_app]
    by_cases h : j = k
    · rw [if_pos h, h, e]
      simp
    · rw [if_neg h]
      cases e2 : getA d j with
      | none => simp [Ne.symm h]
      | some x => rfl
  | some x =>
    rw [if_pos (show (some x).isSome = true from rfl), getA_map]
    by_cases h : j = k
    · rw [if_pos h, h, e]
      simp
    · rw [if_neg h]
      cases getA d j <;> simp [h]
theorem mem_put {d : List (κ × β)} {k : κ} {v : β} {p : κ × β} (h : p ∈ putA d k v) : p ∈ d ∨ p = (k, v) := by
  unfold putA at h
  split at h
  · obtain ⟨q, hq, e⟩ := List.mem_map.mp h
    by_cases z : q.1 = k
    · rw [if_pos z] at e
      exact .inr (by rw [← e, z])
    · rw [if_neg z] at e
      exact .inl (e ▸ hq)
  · rcases List.mem_append.mp h with h | h
    · exact .inl h
    · exact .inr (List.mem_singleton.mp h)
theorem putA_new {d : List (κ × β)} {k : κ} (v : β) (h : k ∉ d.map (·.1)) : putA d k v = d ++ [(k, v)] := by
  unfold putA
  rw [getA_any, getA_none.mpr h]
  rfl
end
/-! how a plain dict stands -/
section
variable {κ α β : Type} [DecidableEq κ] [DecidableEq α]
theorem putK_enc {f : α → κ} (hf : ∀ a b, f a = f b → a = b) (g : β → V) (d : List (α × β)) (k : α) (v : β) : putK (d.map fun p => (f p.1, g p.2)) (f k) (g v) = (putA d k v).map fun p => (f p.1, g p.2) := by
  have hb : ∀ a : α, decide (f a = f k) = decide (a = k) := fun a => decide_eq_decide.mpr ⟨hf a k, fun z => by rw [z]⟩
  have ha : ((d.map fun p => (f p.1, g p.2)).any fun kv => decide (kv.1 = f k)) = d.any fun p => decide (p.1 = k) := by
    rw [List.any_map]
    congr 1
    funext p
    exact hb p.1
  unfold putK putA
  rw [ha]
  cases d.any fun p => decide (p.1 = k) with
  | false => simp
  | true =>
    rw [if_pos rfl, if_pos rfl, List.map_map, List.map_map]
    refine List.map_congr_left fun p _ => ?_
    show (if f p.1 = f k then (f p.1, g v) else (f p.1, g p.2)) = (f (if p.1 = k then (p.1, v) else p).1, g (if p.1 = k then (p.1, v) else p).2)
    by_cases z : p.1 = k
    · rw [if_pos z, if_pos (by rw [z])]
    · rw [if_neg z, if_neg (fun q => z (hf _ _ q))]
theorem valV_enc {f : α → κ} (hf : ∀ a b, f a = f b → a = b) (g : β → V) (d : List (α × β)) (k : α) : valV (d.map fun p => (f p.1, g p.2)) (f k) = (getA d k).map g := by
  induction d with
  | nil => rfl
  | cons p d ih =>
    rw [List.map_cons, getA_cons]
    by_cases h : p.1 = k
    · rw [if_pos h, valV_pos (by show f p.1 = f k; rw [h])]
      rfl
    · rw [if_neg h, valV_neg (fun z => h (hf _ _ z)), ih]
end
/-! ### dict comprehensions over any walk -/
theorem dc_it {J : It} {n : Nat} {G : Hp → Prop} {Y : Nat → Hp → V → Hp → Prop} (w : Walk J n G Y) {g : TG} {tt : TT} {tk tv : TE} {vs : List Nat} {σ : L2.St} {H1 : Hp} {D : Addr} {Qd : Hp → Prop} (Pv : Nat → Hp → Prop) (h0 : Pv 0 (upd H1 D (.dK []))) (hG : ∀ i H, i ≤ n → Pv i H → G H)
    (hs : ∀ i x H H', i < n → Pv i H → Y i H x H' → g x (wipe σ vs) H' fun σ2 H2 => wipe σ2 vs = wipe σ vs ∧ tt σ2 H2 fun b H3 =>
      if b = true then tk σ2 H3 fun y H4 => tv σ2 H4 fun z H5 => ∃ kvs k, y = kV k ∧ H5 D = some (.dK kvs) ∧ kvs.length < sizeLine ∧ Pv (i + 1) (upd H5 D (.dK (putK kvs k z))) else Pv (i + 1) H3) (hd : ∀ H, Pv n H → Qd H) :
    ∃ W : Nat → Nat → Hp → Prop, (∃ m, W 0 m (upd H1 D (.dK []))) ∧ ∀ i m H, W i m H →
      (J.stop i H ∧ Qd H) ∨ (J.go i H ∧ ∃ Nx : Hp → Prop, (∀ H', Nx H' → ∃ m', m' < m ∧ W (i + 1) m' H') ∧ ∀ x H', J.yld i H x H' → g x (wipe σ vs) H' fun σ2 H2 => wipe σ2 vs = wipe σ vs ∧ tt σ2 H2 fun b H3 =>
        if b = true then tk σ2 H3 fun y H4 => tv σ2 H4 fun z H5 => ∃ kvs k, y = kV k ∧ H5 D = some (.dK kvs) ∧ kvs.length < sizeLine ∧ Nx (upd H5 D (.dK (putK kvs k z))) else Nx H3) := by
  refine ⟨fun i m H => m = n - i ∧ i ≤ n ∧ Pv i H, ⟨n, by simp, Nat.zero_le _, h0⟩, ?_⟩
  rintro i m H ⟨rfl, hi, p⟩
  have q := hG i H hi p
  by_cases hlt : i < n
  · refine .inr ⟨w.goes i H hlt q, Pv (i + 1), fun H' p' => ⟨n - (i + 1), by omega, rfl, hlt, p'⟩, fun x H' y => hs i x H H' hlt p (w.yields i H x H' hlt q y)⟩
  · have e : i = n := by omega
    subst e
    exact .inl ⟨w.stops H q, hd H p⟩
/-! ### two dicts compared -/
section
variable {X : Cx}
theorem hits_same {A : Around} {s : Shared} {κ : Type} [DecidableEq κ] {kvs : List (κ × V)} {vb : List (κ × Value)} (rb : KV kvs vb) {ks : List (κ × V)} {va : List (κ × Value)} (ra : KV ks va) :
    (∀ p ∈ ks, valV kvs p.1 = some p.2 ∧ ∃ a, p.2 = .ref a) → PySem.W.KeqHits A s vb va true := by
  unfold KV at ra
  induction ra with
  | nil => intro _; exact .nil
  | @cons p q ps qs h t ih =>
    intro hp
    obtain ⟨h1, h2⟩ := h
    obtain ⟨e, a, f⟩ := hp p List.mem_cons_self
    have rr : RelO (some p.2) (valueAt vb p.1) := by rw [← e]; exact rb.val p.1
    obtain ⟨y, hy, ry⟩ := rr.some_of
    obtain ⟨k, v⟩ := q
    have h1' : p.1 = k := h1
    rw [h1'] at hy
    rw [f] at h2 ry
    have e1 : v = Value.ref a := h2
    have e2 : y = Value.ref a := ry
    subst e1
    subst e2
    show PySem.W.KeqHits A s vb ((k, Value.ref a) :: qs) (true && true)
    exact .hit hy (PySem.SeqAt.EqAt.same _) (ih fun p' hm => hp p' (List.mem_cons_of_mem _ hm))
/-- of one length: the very same objects; else unequal -/
def DKcmp (H : Hp) (x y : V) (r : Bool) : Prop := ∃ a b ks ls, x = .ref a ∧ y = .ref b ∧ H a = some (.dK ks) ∧ H b = some (.dK ls) ∧ ((ks.length ≠ ls.length ∧ r = false) ∨ (ks.length = ls.length ∧ (∀ p ∈ ks, valV ls p.1 = some p.2 ∧ ∃ a, p.2 = .ref a) ∧ r = true))
theorem op_eqK (hu : X.A.units < cLine) : OpR X (compareOp .Eq) (fun x y H Q => ∃ r, DKcmp H x y r ∧ Q (.bl r) H) := by
  intro pins s σ H x y v u Q I rx ry h
  obtain ⟨r, ⟨a, b, ks, ls, rfl, rfl, ea, eb, hc⟩, q⟩ := h
  obtain rfl : v = Value.ref a := rx
  obtain rfl : u = Value.ref b := ry
  obtain ⟨_, ya, va, ra, da⟩ := (show ObjOk X.prog X.w H s.heap a (.dK ks) from I.hok a _ ea)
  obtain ⟨_, yb, vb, rb, db⟩ := (show ObjOk X.prog X.w H s.heap b (.dK ls) from I.hok b _ eb)
  rcases hc with ⟨hl, rfl⟩ | ⟨hl, hp, rfl⟩
  · have hl2 : va.length ≠ vb.length := by rw [← ra.length, ← rb.length]; exact hl
    exact PySem.W.keq_eq (knd := mixKind X.prog X.w) (r := false) ya yb da db hu (fun z => absurd z hl2) (fin_bl I q (by simp))
  · have hl2 : va.length = vb.length := by rw [← ra.length, ← rb.length]; exact hl
    exact PySem.W.keq_eq (knd := mixKind X.prog X.w) (r := true) ya yb da db hu (fun _ => hits_same rb ra hp) (fin_bl I q (by simp [hl2]))
end
end T83

set_option Elab.async false
set_option linter.all false
set_option maxRecDepth 100000
set_option maxHeartbeats 2000000
namespace T83
open PySem PySem.Spec PyProof.Rows L2 RZ
theorem range_fm {α β : Type} (f : α → Option β) (l : List α) : (List.range l.length).filterMap (fun i => l[i]?.bind f) = l.filterMap f := by
  induction l with
  | nil => rfl
  | cons a l ih =>
    rw [List.length_cons, List.range_succ_eq_map, List.filterMap_cons, List.filterMap_map, List.filterMap_cons]
    show (match f a with | none => _ | some b => _) = _
    cases f a with
    | none => exact ih
    | some b => exact congrArg (b :: ·) ih
/-- a comprehension whose items are data: out i, what turn i adds -/
theorem lc_dat {J : It} {n : Nat} {G : Hp → Prop} {Y : Nat → Hp → V → Hp → Prop} (w : Walk J n G Y) (out : Nat → Option PyData) {g : TG} {tt : TT} {te : TE} {vs : List Nat} {σ : L2.St} {H1 : Hp} {D : Addr} {Qd : Hp → Prop} (hG : ∀ H, Same H1 H → G H) (hY : ∀ i H x H', i < n → Y i H x H' → Same H H') (hD : H1 D = none) (hn : n ≤ sizeLine)
    (hs : ∀ (i : Nat) x H H' (k : Hp → Prop), i < n → Y i H x H' → Same H1 H → Same H1 H' → (∀ d y H4, out i = some d → Same H' H4 → Tp H4 y d → ∃ acc, H4 D = some (.lst acc) ∧ acc.length < sizeLine ∧ k (upd H4 D (.lst (acc ++ [y])))) → (out i = none → ∀ H4, Same H' H4 → k H4) →
      g x (wipe σ vs) H' fun σ2 H2 => wipe σ2 vs = wipe σ vs ∧ tt σ2 H2 fun b H3 => if b = true then te σ2 H3 fun y H4 => ∃ acc, H4 D = some (.lst acc) ∧ acc.length < sizeLine ∧ k (upd H4 D (.lst (acc ++ [y]))) else k H3)
    (hd : ∀ H ys, TpAll H ys ((List.range n).filterMap out) → H D = some (.lst ys) → Same H1 H → Qd H) :
    ∃ W : Nat → Nat → Hp → Prop, (∃ m, W 0 m (upd H1 D (.lst []))) ∧ ∀ i m H, W i m H →
      (J.stop i H ∧ Qd H) ∨ (J.go i H ∧ ∃ Nx : Hp → Prop, (∀ H', Nx H' → ∃ m', m' < m ∧ W (i + 1) m' H') ∧ ∀ x H', J.yld i H x H' → g x (wipe σ vs) H' fun σ2 H2 => wipe σ2 vs = wipe σ vs ∧ tt σ2 H2 fun b H3 =>
        if b = true then te σ2 H3 fun y H4 => ∃ acc, H4 D = some (.lst acc) ∧ acc.length < sizeLine ∧ Nx (upd H4 D (.lst (acc ++ [y]))) else Nx H3) := by
  have haD : ∀ b o, H1 b = some o → b ≠ D := fun b o h z => by
    rw [z, hD] at h
    cases h
  have fms : ∀ i, (List.range (i + 1)).filterMap out = (List.range i).filterMap out ++ (out i).toList := fun i => by
    rw [List.range_succ, List.filterMap_append, List.filterMap_cons, List.filterMap_nil]
    cases out i <;> rfl
  refine lc_it w (fun i H => ∃ ys, TpAll H ys ((List.range i).filterMap out) ∧ H D = some (.lst ys) ∧ Same H1 H) ⟨[], .nil, upd_same, fun b o h => by rw [upd_ne (haD b o h)]; exact h⟩ (fun i H _ h => by obtain ⟨ys, _, _, sm⟩ := h; exact hG H sm) (fun i x H H' hi hP hy => ?_) (fun H hP => ?_)
  · obtain ⟨ys, ht, hDl, sm⟩ := hP
    have s1 := hY i H x H' hi hy
    refine hs i x H H' _ hi hy sm (sm.trans s1) (fun d y H4 ho s4 hyd => ?_) (fun ho H4 s4 => ?_)
    · have hl : ys.length < sizeLine := by
        have := List.length_filterMap_le out (List.range i)
        rw [List.length_range] at this
        rw [ht.len]
        omega
      have hD4 := s4 _ _ (s1 _ _ hDl)
      have tk : TupK H4 (upd H4 D (.lst (ys ++ [y]))) := tk_upd hD4 id
      refine ⟨ys, hD4, hl, ys ++ [y], ?_, upd_same, fun b o h => by rw [upd_ne (haD b o h)]; exact s4 _ _ (s1 _ _ (sm _ _ h))⟩
      rw [fms, ho]
      exact ((ht.keep ((s1.trans s4).tups.trans tk)).app (hyd.keep tk))
    · refine ⟨ys, ?_, s4 _ _ (s1 _ _ hDl), (sm.trans s1).trans s4⟩
      rw [fms, ho, Option.toList_none, List.append_nil]
      exact ht.keep (s1.trans s4).tups
  · obtain ⟨ys, ht, hDl, sm⟩ := hP
    exact hd H ys ht hDl sm
end T83

set_option Elab.async false
set_option linter.all false
set_option maxRecDepth 100000
set_option maxHeartbeats 2000000
namespace T83
open PySem PySem.Spec PyProof.Rows L2 RZ
/-! ### a choice's parts out of a dict -/
def lookD (D : Prt) (k : Int) : Int := (getA D k).getD 0
def keysD (D : Prt) : List Int := (D.map (·.1)).mergeSort (fun a b => decide (a ≤ b))
def leftD (D : Prt) : Prt := ((keysD D).filter fun k => decide (0 < lookD D k)).map fun k => (k, lookD D k)
def overG (g : Nat) (ps : Prt) : Prt := ps.map fun q => (q.1, q.2.fdiv (g : Int))
def partsD (D : Prt) : Prt := overG (gcdL (leftD D)) (leftD D)
def withP (c : Chc) (g n : Int) : Chc := (c.1, partsD (putA c.2 g n))
theorem keysD_perm (D : Prt) : (keysD D).Perm (D.map (·.1)) := List.mergeSort_perm _ _
theorem keysD_sorted (D : Prt) : (keysD D).Pairwise (· ≤ ·) := by
  have := List.pairwise_mergeSort (le := fun a b : Int => decide (a ≤ b)) (fun a b c h1 h2 => by
    simp only [decide_eq_true_eq] at *
    omega) (fun a b => by
    simp only [Bool.or_eq_true, decide_eq_true_eq]
    omega) (D.map (·.1))
  exact this.imp fun h => by simpa using h
theorem keysD_of {D : Prt} {ys : List Int} (hp : ys.Perm (D.map (·.1))) (hs : ys.Pairwise (· ≤ ·)) : ys = keysD D :=
  List.Perm.eq_of_pairwise (fun x y _ _ h1 h2 => Int.le_antisymm h1 h2) hs (keysD_sorted D) (hp.trans (keysD_perm D).symm)
/-- a part's dict -/
abbrev eD (D : Prt) : List (Key × V) := D.map fun q => ((Sum.inl q.1 : Key), V.int q.2)
theorem inl_inj : ∀ a b : Int, (Sum.inl a : Key) = Sum.inl b → a = b := fun a b h => by injection h
theorem prt_of {H : Hp} {y : V} {ps : Prt} (h : Tp H y (dPr ps)) : ∃ (b : Addr) (xs : List V), y = .ref b ∧ Rd H b (.tup xs) ∧ TpAll H xs (ps.map dQ) ∧ xs.length = ps.length := by
  cases h with
  | @tup b xs _ h k _ => exact ⟨b, xs, rfl, .inl h, k, by rw [k.len, List.length_map]⟩
  | @prt b xs _ h k _ => exact ⟨b, xs, rfl, h.rd, k, by rw [k.len, List.length_map]⟩
/-- the i-th pair -/
theorem pairAt {H : Hp} {xs : List V} {ps : Prt} (h : TpAll H xs (ps.map dQ)) {i : Nat} {x : V} (hx : xs[i]? = some x) : ∃ q b, ps[i]? = some q ∧ x = .ref b ∧ H b = some (.tup [.int q.1, .int q.2]) := by
  obtain ⟨d, e1, e2⟩ := h.get hx
  rw [List.getElem?_map] at e1
  obtain ⟨q, e3, rfl⟩ := Option.map_eq_some_iff.mp e1
  obtain ⟨b, rfl, hb⟩ := pair_of e2
  exact ⟨q, b, e3, rfl, hb⟩
theorem take_notin {α β : Type} {f : α → β} {l : List α} (nd : (l.map f).Nodup) {i : Nat} {q : α} (h : l[i]? = some q) : f q ∉ (l.take i).map f := by
  intro hm
  rw [← List.take_append_drop i l, List.map_append] at nd
  refine (List.nodup_append.mp nd).2.2 _ hm _ (List.mem_map.mpr ⟨q, ?_, rfl⟩) rfl
  exact List.mem_of_getElem? (i := 0) (by rw [List.getElem?_drop]; exact h)
theorem eD_put (D : Prt) (g n : Int) : putK (eD D) (Sum.inl g) (V.int n) = eD (putA D g n) := putK_enc inl_inj V.int D g n
theorem eD_snoc {ps : Prt} (nd : (ps.map (·.1)).Nodup) {i : Nat} {q : Int × Int} (h : ps[i]? = some q) : putK (eD (ps.take i)) (Sum.inl q.1) (V.int q.2) = eD (ps.take (i + 1)) := by
  rw [eD_put, putA_new _ (take_notin nd h), List.take_add_one, h]
  rfl
theorem eD_get {D : Prt} {k : Int} (h : k ∈ D.map (·.1)) : valV (eD D) (Sum.inl k) = some (.int (lookD D k)) := by
  rw [valV_enc inl_inj V.int]
  cases e : getA D k with
  | none => exact absurd h (getA_none.mp e)
  | some v =>
    unfold lookD
    rw [e]
    rfl
theorem left_fm (D : Prt) : ∀ l : List Int, (l.filterMap fun k => if 0 < lookD D k then some (dQ (k, lookD D k)) else none) = ((l.filter fun k => decide (0 < lookD D k)).map fun k => (k, lookD D k)).map dQ
  | [] => rfl
  | k :: l => by
    rw [List.filterMap_cons, List.filter_cons]
    by_cases h : 0 < lookD D k
    · rw [if_pos h, if_pos (decide_eq_true h), List.map_cons, List.map_cons, left_fm D l]
    · rw [if_neg h, if_neg (by simpa using h), left_fm D l]
theorem gcd_fold : ∀ (ps : Prt) (g : Nat), ps.foldl (fun g q => Nat.gcd g q.2.natAbs) g ∣ g ∧ ∀ q ∈ ps, ps.foldl (fun g q => Nat.gcd g q.2.natAbs) g ∣ q.2.natAbs
  | [], g => ⟨Nat.dvd_refl _, fun q h => by cases h⟩
  | p :: ps, g => by
    obtain ⟨h1, h2⟩ := gcd_fold ps (Nat.gcd g p.2.natAbs)
    refine ⟨Nat.dvd_trans h1 (Nat.gcd_dvd_left _ _), fun q hq => ?_⟩
    rcases List.mem_cons.mp hq with z | z
    · rw [z]
      exact Nat.dvd_trans h1 (Nat.gcd_dvd_right _ _)
    · exact h2 q z
theorem gcdL_dvd {ps : Prt} {q : Int × Int} (h : q ∈ ps) : gcdL ps ∣ q.2.natAbs := (gcd_fold ps 0).2 q h
theorem gcdL_snoc {ps : Prt} {i : Nat} {q : Int × Int} (h : ps[i]? = some q) : gcdL (ps.take (i + 1)) = Nat.gcd (gcdL (ps.take i)) q.2.natAbs := by
  rw [List.take_add_one, h]
  unfold gcdL
  rw [Option.toList_some, List.foldl_append]
  rfl
theorem left_pos {D : Prt} {q : Int × Int} (h : q ∈ leftD D) : 0 < q.2 ∧ q ∈ D := by
  obtain ⟨k, hk, rfl⟩ := List.mem_map.mp h
  obtain ⟨h1, h2⟩ := List.mem_filter.mp hk
  have h2 : 0 < lookD D k := by simpa using h2
  refine ⟨h2, ?_⟩
  show (k, lookD D k) ∈ D
  unfold lookD at h2 ⊢
  cases e : getA D k with
  | none =>
    rw [e] at h2
    exact absurd h2 (by decide)
  | some v => exact getA_mem e
section
variable {P : Program} {w : World} {K : PySem.W.Frag} {mg : Str → Option Value} {base : Heap}
/-! ### with_part -/
abbrev sWithP : Stmt := top 98
abbrev nWithP : List Str := ["choice", "goal", "number", "place", "part", "parts", "left", "common"]
theorem scWithP : FnScope nWithP ["choice", "goal", "number"] (defScope sWithP) := ⟨rfl, rfl, rfl, by decide +kernel, rfl, by decide +kernel, by decide +kernel⟩
/-- parts as a dict: small, no place twice -/
structure Prs (ps : Prt) : Prop where
  few : ps.length ≤ 20
  nd : (ps.map (·.1)).Nodup
  val : ∀ q ∈ ps, 0 ≤ q.2 ∧ q.2 ≤ 10 ^ 6
def spWithP : Sp := fun vs H Q _ => ∃ x c g n, vs = [x, .int g, .int n] ∧ Tp H x (dC c) ∧ Prs c.2 ∧ 0 ≤ n ∧ n ≤ 10 ^ 6 ∧ ∀ H' v, Same H H' → Tp H' v (dC (withP c g n)) → Q v H'
theorem ok_withP (F : Fx K mg) (D : At K mg "with_part" sWithP) : Cal P w K mg base CX0 1 "with_part" ["choice", "goal", "number"] spWithP := by
  refine cal_of D scWithP (fun vs H Q E h => ?_) (fun _ _ _ _ _ _ us hl => match us, hl with | [_, _, _], _ => rfl) fun f cdv A outer s H vs Q E hr h => ⟨_, PSs.nox (pss_cons (ps_set (i := 5) scWithP.nd rfl (Or.inr rfl) (pe_dc (own := [("place", 3), ("part", 4)]) (g := gTup K 2 (gCons (gName 3) (gCons (gName 4) gNil))) (tt := tYes) rfl scWithP.nd (pi_tup (pe_ix ix_tup (pv 0) pe_int (fun _ _ => rfl))) (blkOk_by (N := nWithP) (sc := defScope sWithP) (by decide +kernel))
        (fun _ _ _ _ _ => pg_tup rfl (pgs_cons (pg_name (i := 3) scWithP.nd rfl (Or.inl rfl)) (pgs_cons (pg_name (i := 4) scWithP.nd rfl (Or.inl rfl)) pgs_nil))) (fun _ _ _ _ _ => pts_nil) (fun _ _ _ _ _ => pv 3) (fun _ _ _ _ _ => pv 4)))
    (pss_cons (ps_dput (hu_of hr) (pv 5) (pv 1) (pv 2) rfl)
    (pss_cons (ps_setLc (i := 6) (own := [("place", 3)]) (g := gName 3) rfl scWithP.nd rfl rfl (sw_true rfl rfl rfl (by decide +kernel)) (pi_list (pe_callB (call_sortedDI rfl) (by rfl) (F.b "sorted" (by decide)) (by decide +kernel) (pa_cons (pv 5) pa_nil))) (blkOk_by (N := nWithP) (sc := defScope sWithP) (by decide +kernel))
        (fun _ _ _ _ _ => pg_name (i := 3) scWithP.nd rfl (Or.inl rfl)) (fun _ _ _ _ _ => pts_one (pt_cmpR op_gt (pe_dget (hu_of hr) (pv 5) (pv 3) (fun _ _ => rfl)) pe_int (nomark _))) (fun _ _ _ _ _ => pe_tup (pa_cons (pv 3) (pa_cons (pe_dget (hu_of hr) (pv 5) (pv 3) (fun _ _ => rfl)) pa_nil))))
    (pss_cons (ps_set (i := 7) scWithP.nd rfl (Or.inr rfl) pe_int)
    (pss_cons (ps_for PassesOwn.never rfl (pi_list (pv 6)) (pg_tup (n := 2) rfl (pgs_cons (pg_name (i := 3) scWithP.nd rfl (Or.inl rfl)) (pgs_cons (pg_name (i := 4) scWithP.nd rfl (Or.inl rfl)) pgs_nil)))
        (pss_one (ps_set (i := 7) scWithP.nd rfl (Or.inr rfl) (pe_callBfun cr_gcd (by rfl) F.gcd (pa_cons (pv 7) (pa_cons (pv 4) pa_nil))))))
    (pss_one (ps_ret (pe_tup (pa_cons (pe_ix ix_tup (pv 0) pe_int (fun _ _ => rfl)) (pa_cons (pe_callTy call_tupleF (by rfl) (F.b "tuple" (by decide)) (by decide +kernel) (pa_cons (pe_lc (own := [("place", 3), ("part", 4)]) (g := gTup K 2 (gCons (gName 3) (gCons (gName 4) gNil))) (tt := tYes) rfl scWithP.nd (pi_list (pv 6)) (blkOk_by (N := nWithP) (sc := defScope sWithP) (by decide +kernel))
        (fun _ _ _ _ _ => pg_tup rfl (pgs_cons (pg_name (i := 3) scWithP.nd rfl (Or.inl rfl)) (pgs_cons (pg_name (i := 4) scWithP.nd rfl (Or.inl rfl)) pgs_nil))) (fun _ _ _ _ _ => pts_nil) (fun _ _ _ _ _ => pe_tup (pa_cons (pv 3) (pa_cons (pe_op op_fdivN (pv 4) (pv 7)) pa_nil)))) pa_nil)) pa_nil)))))))))), ?_⟩
  · obtain ⟨x, c, g, n, rfl, _⟩ := h
    rfl
  · obtain ⟨x, c, g, n, rfl, hx, hc, hn0, hn1, hq⟩ := h
    obtain ⟨a, y, rfl, ha, hy⟩ := chc_of hx
    obtain ⟨b, xs, rfl, hb, hxs, xl⟩ := prt_of hy
    have hfew := hc.few
    refine ⟨_, rfl, a, _, 1, _, rfl, rfl, SqT.of ha, rfl, b, rfl, ⟨xs, .inl hb⟩, fun DD hDD => ?_⟩
    have haD : ∀ b o, H b = some o → b ≠ DD := fun b o h z => by
      rw [z, hDD] at h
      cases h
    refine dc_it (n := xs.length) walk_tup (fun i H' => Same H H' ∧ H' DD = some (.dK (eD (c.2.take i)))) ⟨same_laid hDD, upd_same⟩ (fun i H' _ h => .inl (h.1.rd hb)) (fun i x H1 H2 hi hP hY => ?_) (fun H2 hP => ?_)
    · obtain ⟨sm, hD⟩ := hP
      obtain ⟨rfl, hx⟩ := hY
      obtain ⟨q, t, hq1, rfl, ht⟩ := pairAt (hxs.keep sm.tups) hx
      refine ⟨t, _, rfl, SqT.of ht, rfl, _, _, rfl, _, _, rfl, rfl, rfl, lc_yes ⟨_, rfl, _, rfl, _, Sum.inl q.1, rfl, hD, ?_, ?_, ?_⟩⟩
      · rw [List.length_map, List.length_take, sizeLine_eq]
        omega
      · exact fun b o h => by rw [upd_ne (haD b o h)]; exact sm b o h
      · rw [upd_same, eD_snoc hc.nd hq1]
    · obtain ⟨sm, hD⟩ := hP
      rw [xl, List.take_length] at hD
      refine ⟨_, rfl, _, rfl, _, rfl, DD, _, rfl, DPut.k (k := Sum.inl g) hD (by rw [List.length_map, sizeLine_eq]; omega), ?_⟩
      rw [eD_put]
      generalize hDe : putA c.2 g n = D
      have hnd : (D.map (·.1)).Nodup := by
        rw [← hDe]
        exact putA_nodup hc.nd
      have hval : ∀ q ∈ D, 0 ≤ q.2 ∧ q.2 ≤ 10 ^ 6 := fun q hq => by
        rw [← hDe] at hq
        rcases mem_put hq with z | z
        · exact hc.val q z
        · rw [z]
          exact ⟨hn0, hn1⟩
      have hlenD : D.length ≤ 21 := by
        have e := congrArg List.length (putA_keys c.2 g n)
        rw [hDe, List.length_map] at e
        split at e
        · rw [List.length_map] at e
          omega
        · rw [List.length_append, List.length_map] at e
          simp at e
          omega
      generalize hH3 : upd H2 DD (.dK (eD D)) = H3
      have sm3 : Same H H3 := fun b o h => by rw [← hH3, upd_ne (haD b o h)]; exact sm b o h
      have hD3 : H3 DD = some (.dK (eD D)) := by rw [← hH3, upd_same]
      refine ⟨_, rfl, DD, eD D, D.map (·.1), rfl, .inl hD3, by simp [eD, Function.comp_def], by rw [List.length_map]; omega, fun ys L hyp hys hL => ?_⟩
      have hyk := keysD_of hyp hys
      subst hyk
      have s4 : Same H3 (upd H3 L (.lst ((keysD D).map V.int))) := same_laid hL
      refine ⟨L, rfl, ⟨_, SqL.of upd_same⟩, fun M hM => ?_⟩
      have kl : ((keysD D).map V.int).length = (keysD D).length := List.length_map _
      have klD : (keysD D).length = D.length := by rw [(keysD_perm D).length_eq, List.length_map]
      refine lc_dat (n := ((keysD D).map V.int).length) walk_list (fun i => (keysD D)[i]?.bind fun k => if 0 < lookD D k then some (dQ (k, lookD D k)) else none) (fun H' s => s.seq (SqL.of upd_same)) (fun i H1 x H2 hi hY => by rw [hY.1]; exact Same.refl _) hM (by rw [sizeLine_eq]; omega) (fun i x H5 H6 k hi hY sm5 sm6 hk hkn => ?_) (fun H5 ys ht hML sm5 => ?_)
      · obtain ⟨rfl, hx⟩ := hY
        rw [List.getElem?_map] at hx
        obtain ⟨ky, hky, rfl⟩ := Option.map_eq_some_iff.mp hx
        rw [hky] at hk hkn
        have hmem : ky ∈ D.map (·.1) := (keysD_perm D).mem_iff.mp (List.mem_of_getElem? hky)
        have hg := eD_get hmem
        have hD6 := sm6 _ _ (s4 _ _ hD3)
        have hdg : DGet H6 DD (.int ky) (some (.int (lookD D ky))) := by
          have := DGet.k (k := Sum.inl ky) hD6
          rw [hg] at this
          exact this
        refine ⟨rfl, _, rfl, _, rfl, DD, _, rfl, hdg, _, _, rfl, rfl, _, rfl, ?_⟩
        by_cases hp : 0 < lookD D ky
        · rw [decide_eq_true hp]
          exact iteT ⟨_, rfl, _, rfl, _, rfl, DD, _, rfl, hdg, two_le2, fun t ht => hk _ _ _ (by rw [Option.bind_some, if_pos hp]; rfl) (same_laid ht) (.tup upd_same (.cons (.int _) (.cons (.int _) .nil)))⟩
        · rw [decide_eq_false hp]
          exact iteF (hkn (by rw [Option.bind_some, if_neg hp]) _ (Same.refl _))
      · rw [kl, range_fm, left_fm] at ht
        have ht : TpAll H5 ys ((leftD D).map dQ) := ht
        have yl : ys.length = (leftD D).length := by rw [ht.len, List.length_map]
        have sE : Same H H5 := (sm3.trans s4).trans sm5
        have yle : (leftD D).length ≤ D.length := by
          rw [← klD]
          unfold leftD
          rw [List.length_map]
          exact List.length_filter_le _ _
        refine ⟨_, rfl, M, rfl, ⟨_, SqL.of hML⟩, ?_⟩
        refine for_it (n := ys.length) walk_list (fun i σ H' => (∃ u3 u4, σ = [some (.ref a), some (.int g), some (.int n), u3, u4, some (.ref DD), some (.ref M), some (.int ((gcdL ((leftD D).take i) : Nat) : Int))]) ∧ Same H5 H') ⟨⟨none, none, rfl⟩, Same.refl _⟩ (fun i σ H' _ h => SqL.of (h.2 _ _ hML)) (fun i x σ H6 H7 hi hP hY => ?_) (fun σ H6 hP => ?_)
        · obtain ⟨⟨u3, u4, rfl⟩, sm6⟩ := hP
          obtain ⟨rfl, hx⟩ := hY
          obtain ⟨q, t, hq1, rfl, htt⟩ := pairAt (ht.keep sm6.tups) hx
          refine ⟨t, _, rfl, SqT.of htt, rfl, _, _, rfl, _, _, rfl, rfl, _, rfl, _, rfl, _, _, rfl, ⟨some (.int q.1), some (.int q.2), ?_⟩, sm6⟩
          rw [gcdL_snoc hq1]
          rfl
        · obtain ⟨⟨u3, u4, rfl⟩, sm6⟩ := hP
          rw [yl, List.take_length]
          have hM6 := sm6 _ _ hML
          refine ⟨_, rfl, a, _, 0, _, rfl, rfl, SqT.of ((sE.trans sm6) _ _ ha), rfl, _, rfl, M, rfl, ⟨_, SqL.of hM6⟩, fun N hN => ?_⟩
          refine lc_dat (n := ys.length) walk_list (fun i => (leftD D)[i]?.bind fun q => some (dQ (q.1, q.2.fdiv ((gcdL (leftD D) : Nat) : Int)))) (fun H' s => s.seq (SqL.of hM6)) (fun i H1 x H2 hi hY => by rw [hY.1]; exact Same.refl _) hN (by rw [sizeLine_eq]; omega) (fun i x H7 H8 k hi hY sm7 sm8 hk hkn => ?_) (fun H7 zs hzs hNL sm7 => ?_)
          · obtain ⟨rfl, hx⟩ := hY
            obtain ⟨q, t, hq1, rfl, htt⟩ := pairAt (ht.keep (sm6.trans sm8).tups) hx
            rw [hq1] at hk
            obtain ⟨hqp, hqD⟩ := left_pos (List.mem_of_getElem? hq1)
            have hdv := gcdL_dvd (List.mem_of_getElem? hq1)
            have hqv := hval q hqD
            have hle : gcdL (leftD D) ≤ q.2.natAbs := Nat.le_of_dvd (by omega) hdv
            have hne : gcdL (leftD D) ≠ 0 := fun z => by
              rw [z] at hdv
              have := Nat.eq_zero_of_zero_dvd hdv
              omega
            refine ⟨t, _, rfl, SqT.of htt, rfl, _, _, rfl, _, _, rfl, rfl, rfl, lc_yes ⟨_, rfl, _, rfl, _, rfl, _, _, rfl, rfl, ⟨by omega, by omega⟩, two_le2, fun t2 ht2 => hk _ _ _ rfl (same_laid ht2) (.tup upd_same (.cons (.int _) (.cons (.int _) .nil)))⟩⟩
          · rw [yl, range_fm] at hzs
            have hzs : TpAll H7 zs ((partsD D).map dQ) := by
              have e : ((leftD D).filterMap fun q => some (dQ (q.1, q.2.fdiv ((gcdL (leftD D) : Nat) : Int)))) = (partsD D).map dQ := by
                unfold partsD overG
                rw [List.map_map]
                exact congrFun (List.filterMap_eq_map (f := dQ ∘ fun q : Int × Int => (q.1, q.2.fdiv ((gcdL (leftD D) : Nat) : Int)))) _
              rw [← e]
              exact hzs
            refine ⟨N, zs, prtB ((partsD D).map dQ), rfl, SqL.of hNL, fun T u hu hT => ⟨two_le2, fun R hR => ?_⟩⟩
            have s8 : Same H7 (upd H7 T u) := same_laid hT
            have s9 : Same (upd H7 T u) (upd (upd H7 T u) R (.tup [.int c.1, .ref T])) := same_laid hR
            refine hq _ _ ((((sE.trans sm6).trans sm7).trans s8).trans s9) ?_
            unfold withP
            rw [hDe]
            exact .tup upd_same (.cons (.int c.1) (.cons (tp_of hu (s9 _ _ upd_same) (hzs.keep (s8.trans s9).tups)) .nil))
end
end T83

set_option Elab.async false
set_option linter.all false
set_option maxRecDepth 100000
set_option maxHeartbeats 2000000
/-! in, len, ==, !=, str of an instance by its class's own __contains__, __len__, __eq__, __str__ -/
namespace T83
open PySem PySem.Spec PyProof.Rows L2
/-- a special method, called within built-ins -/
structure Spc (X : Cx) (C : Addr) (k : Nat) (m : Str) (ps : List Str) (sp : Sp) : Prop where
  ex : ∃ f fd, PySem.W.findIn X.K (.ref C) m = some (some (.ref f)) ∧ PySem.W.isFn X.K (.ref f) = true ∧ Binds X.K fd ps [] ∧ FnOk X.prog X.w X.K X.mg X.base CX0 k f fd ps sp
section
variable {X : Cx} {C : Addr} {k : Nat} {m : Str} {ps : List Str} {sp : Sp} {pins : List (Addr × Obj)} {σ : L2.St} {H : Hp} {s : Shared}
theorem run_sub {f : Addr} {fd : FuncData} {A : Around} {us : List Value} {vs : List V} {Q : VK} {E : XK} (F : FnOk X.prog X.w X.K X.mg X.base CX0 k f fd ps sp) (hr : Room k A) (fr : A.frames = X.A.frames) (hb : Binds X.K fd ps []) (I : Inv X pins σ H s) (r : Vals vs us) (h : sp vs H Q E) :
    wpAny (model X.prog X.w) A (call (.ref f) us) (fun u s' => ∃ v H', Inv X pins σ H' s' ∧ RelV v u ∧ Q v H') X.xe s := by
  have e0 : Env0 X.prog X.w X.K X.mg X.base A X.stack s H := by
    have e := I.env0
    exact ⟨by rw [fr]; exact e.frames, e.mod, e.bs, e.bsz, e.funs, e.frf, e.hok, e.bare⟩
  have hl := F.len _ _ _ _ h
  have nl : us.length = ps.length := by
    rw [← r.length]
    exact hl
  refine wpAny_call (codeAny_mono (F.run A X.stack s H ⟨us, []⟩ us vs Q E hr e0 (by
    have := hb s us I.kIn (by rw [List.append_nil]; exact nl)
    rw [List.append_nil] at this
    exact this) r h) fun r s' hq => ?_)
  cases r with
  | error e => exact hq.elim
  | ok fl =>
    cases fl with
    | ret w =>
      obtain ⟨z, H', I', rz, ez⟩ := I.after hq
      exact ⟨z, H', I', rz, ez⟩
    | next => exact False.elim hq
    | brk => exact False.elim hq
    | cont => exact False.elim hq
/-- x in o -/
def rOwnIn (C : Addr) (sp : Sp) (neg : Bool) : V → V → Hp → VK → Prop := fun x y H Q => ∃ p dx fs, y = .ref p ∧ H p = some (.ins C dx fs) ∧ sp [.ref p, x] H (fun v H' => ∃ b, v = .bl b ∧ Q (.bl (if neg then !b else b)) H') E0
theorem op_inO (T : Spc X C k "__contains__" ps sp) (hr : Room k X.A) : OpR X (compareOp .In) (rOwnIn C sp false) := by
  intro pins s σ H x y v u Q I rx ry h
  obtain ⟨p, dx, fs, rfl, hp, hs⟩ := h
  cases ry
  obtain ⟨f, fd, hf, hfn, hb, F⟩ := T.ex
  obtain ⟨mA, J, _⟩ := ins_get I.hok hp
  obtain ⟨od, J, _⟩ := J.look
  obtain ⟨m, hF⟩ := I.fr
  refine PySem.W.in_K hF I.ok.mod.kin J hf hfn (wpAny_mono (run_sub F hr rfl hb I (.cons (show L2.RelV (.ref p) (Value.ref p) from rfl) (.cons rx .nil)) hs) (fun r s' q => ?_) fun _ _ z => z)
  obtain ⟨w', H', I', rw', b, rfl, q⟩ := q
  obtain rfl : r = Value.bool b := rw'
  exact wpAny_truthy_bool ⟨.bl b, H', I', rfl, q⟩
theorem op_notInO (T : Spc X C k "__contains__" ps sp) (hr : Room k X.A) : OpR X (compareOp .NotIn) (rOwnIn C sp true) := by
  intro pins s σ H x y v u Q I rx ry h
  obtain ⟨p, dx, fs, rfl, hp, hs⟩ := h
  cases ry
  obtain ⟨f, fd, hf, hfn, hb, F⟩ := T.ex
  obtain ⟨mA, J, _⟩ := ins_get I.hok hp
  obtain ⟨od, J, _⟩ := J.look
  obtain ⟨m, hF⟩ := I.fr
  refine PySem.W.notIn_K hF I.ok.mod.kin J hf hfn (wpAny_mono (run_sub F hr rfl hb I (.cons (show L2.RelV (.ref p) (Value.ref p) from rfl) (.cons rx .nil)) hs) (fun r s' q => ?_) fun _ _ z => z)
  obtain ⟨w', H', I', rw', b, rfl, q⟩ := q
  obtain rfl : r = Value.bool b := rw'
  exact wpAny_truthy_bool ⟨.bl (!b), H', I', rfl, q⟩
/-- len(o) -/
def rOwnLen (C : Addr) (sp : Sp) : List V → Hp → VK → Prop := fun xs H Q => ∃ p dx fs, xs = [.ref p] ∧ H p = some (.ins C dx fs) ∧ sp [.ref p] H (fun v H' => ∃ n : Int, v = .int n ∧ 0 ≤ n ∧ n < 2 ^ 63 ∧ Q (.int n) H') E0
theorem cr_lenO (T : Spc X C k "__len__" ps sp) (hr : Room (k + 1) X.A) : CallR X (.builtin "len") (rOwnLen C sp) := by
  intro pins s σ H xs us Q I r h
  obtain ⟨p, dx, fs, rfl, hp, hs⟩ := h
  rw [Vals.ref1 r]
  obtain ⟨f, fd, hf, hfn, hb, F⟩ := T.ex
  obtain ⟨mA, J, _⟩ := ins_get I.hok hp
  obtain ⟨od, J, _⟩ := J.look
  obtain ⟨m, hF⟩ := I.fr
  refine PySem.W.len_K hF I.ok.mod.kin J hf hfn (wpAny_mono (run_sub F hr.in1 (by simp) hb I (.cons (show L2.RelV (.ref p) (Value.ref p) from rfl) .nil) hs) (fun r s' q => ?_) fun _ _ z => z)
  obtain ⟨w', H', I', rw', n, rfl, h0, h1, q⟩ := q
  obtain ⟨t, rfl⟩ := rw'
  exact ⟨⟨h0, h1⟩, .int n, H', I'.tok _, ⟨_, rfl⟩, q⟩
/-- str(o) -/
def rOwnStr (C : Addr) (sp : Sp) : List V → Hp → VK → Prop := fun xs H Q => ∃ p dx fs, xs = [.ref p] ∧ H p = some (.ins C dx fs) ∧ sp [.ref p] H (fun v H' => ∃ z, v = .str z ∧ Q (.str z) H') E0
theorem cr_strO (T : Spc X C k "__str__" ps sp) (hr : Room (k + 2) X.A) : CallR X (.type "str") (rOwnStr C sp) := by
  intro pins s σ H xs us Q I r h
  obtain ⟨p, dx, fs, rfl, hp, hs⟩ := h
  rw [Vals.ref1 r]
  obtain ⟨f, fd, hf, hfn, hb, F⟩ := T.ex
  obtain ⟨mA, J, _⟩ := ins_get I.hok hp
  obtain ⟨od, J, _⟩ := J.look
  refine PySem.W.kso_call hr.in1.in1.units0 I.kIn J hf hfn (wpAny_mono (run_sub F hr.in1.in1 (by simp) hb I (.cons (show L2.RelV (.ref p) (Value.ref p) from rfl) .nil) hs) (fun r s' q => ?_) fun _ _ z => z)
  obtain ⟨w', H', I', rw', z, rfl, q⟩ := q
  obtain ⟨t, rfl⟩ := rw'
  exact ⟨.str z, H', I', ⟨_, rfl⟩, q⟩
/-- what the other side's type is -/
def OthT (K : PySem.W.Frag) (C : Addr) (H : Hp) (y : V) : Prop := (∃ q dx fs, y = .ref q ∧ H q = some (.ins C dx fs)) ∨ (∃ i, y = .int i ∧ PySem.W.subIn K (.type "int") (.ref C) = some false)
def rOwnCmp (K : PySem.W.Frag) (C : Addr) (sp : Sp) (neg : Bool) : V → V → Hp → VK → Prop := fun x y H Q => ∃ p dx fs, x = .ref p ∧ H p = some (.ins C dx fs) ∧ OthT K C H y ∧ sp [.ref p, y] H (fun v H' => ∃ b, v = .bl b ∧ Q (.bl (if neg then !b else b)) H') E0
theorem oth_looks {y : V} {v : Value} {M : Model} (I : Inv X pins σ H s) (h : OthT X.K C H y) (r : RelV y v) : ∃ tb, PySem.W.Looks M s.heap (typeOf v) tb ∧ PySem.W.notFirst X.K C tb = true := by
  rcases h with ⟨q, dx, fs, rfl, hq⟩ | ⟨i, rfl, hi⟩
  · cases r
    obtain ⟨mA, J, _⟩ := ins_get I.hok hq
    obtain ⟨od, J, _⟩ := J.look
    exact ⟨.ref C, J.type, by simp [PySem.W.notFirst]⟩
  · obtain ⟨t, rfl⟩ := r
    refine ⟨.type "int", PySem.W.Looks.of_pure rfl, ?_⟩
    unfold PySem.W.notFirst
    rw [hi]
    simp
theorem op_eqO (T : Spc X C k "__eq__" ps sp) (hr : Room k X.A) : OpR X (compareOp .Eq) (rOwnCmp X.K C sp false) := by
  intro pins s σ H x y v u Q I rx ry h
  obtain ⟨p, dx, fs, rfl, hp, ho, hs⟩ := h
  cases rx
  obtain ⟨f, fd, hf, hfn, hb, F⟩ := T.ex
  obtain ⟨mA, J, _⟩ := ins_get I.hok hp
  obtain ⟨od, J, _⟩ := J.look
  obtain ⟨m, hF⟩ := I.fr
  obtain ⟨tb, hL, hn⟩ := oth_looks (M := model X.prog X.w) I ho ry
  show wpAny _ _ (richCompare .Eq (.ref p) u) _ _ _
  refine PySem.W.cmp_K (op := .Eq) (tb := tb) hr.units0 hF I.ok.mod.kin J hL hn hf hfn (wpAny_mono (run_sub F hr rfl hb I (.cons (show L2.RelV (.ref p) (Value.ref p) from rfl) (.cons ry .nil)) hs) (fun r s' q => ?_) fun _ _ z => z)
  obtain ⟨w', H', I', rw', b, rfl, q⟩ := q
  obtain rfl : r = Value.bool b := rw'
  exact ⟨.bl b, H', I', rfl, q⟩
end
end T83

set_option Elab.async false
set_option linter.all false
set_option maxRecDepth 100000
set_option maxHeartbeats 2000000
/-! != of an instance whose class has __eq__ alone -/
namespace T83
open PySem PySem.Spec PyProof.Rows L2
section
variable {prog : Program} {w : World} {A : Around} {E : Value → Shared → Prop} {s : Shared} {K : PySem.W.Frag} {x C L f : Addr} {h₀ : Heap} {m : Str → Option Value} {ox : Obj} {od : Option Obj} {name : Str} {b tb : Value} {id : String}
theorem ifBound_B {M : Model} {args : List Value} {Q : Option Value → Shared → Prop} (X : K.In s.heap) (I : PySem.W.InstAt s.heap x ox C od) (hs : PySem.W.findIn K (.ref C) name = some (some (.builtin id))) (hb : ∀ self, bindSpecial (.builtin id) self = pure (.builtin id, [self]))
    (h : wpAny M A (call (.builtin id) (.ref x :: args)) (fun v => Q (some v)) E s) : wpAny M A (callSpecialIfBound? (.ref x) name args) Q E s := by
  simp only [callSpecialIfBound?, bindSpecialIfBound?]
  refine wpAny_holding (wpAny_bind (wpAny_bind (wpAny_bind (I.type.here ((PySem.W.looks_findIn X hs).here ?_)))))
  refine wpAny_bind (wpAny_askSetting (wpAny_ite ?_))
  have fin : wpAny M A (call (.builtin id) ([.ref x] ++ args) >>= fun v => pure (some v)) Q E s := wpAny_bind (wpAny_mono h (fun v s' h' => wpAny_pure h') fun _ _ h' => h')
  split
  · exact wpAny_bind ((PySem.W.Looks.of_pure (hb _)).here (wpAny_pure (by exact fin)))
  · exact wpAny_tryCatch (wpAny_bind ((PySem.W.Looks.of_pure (hb _)).here (wpAny_pure (by exact fin))))
theorem call_one {Q : Value → Shared → Prop} (hu : A.in1.units < cLine) (X : K.In s.heap) (I : PySem.W.InstAt s.heap x ox C od) (hm : PySem.W.mroIn K C (.type "object") = some true) (hr : PySem.W.findIn K (.ref C) "__eq__" = some (some (.ref f))) (hf : PySem.W.isFn K (.ref f) = true)
    (h : wpAny (model prog w) A.in1 (call (.ref f) [.ref x, b]) (fun r s' => ∃ k, r = .bool k ∧ Q (.bool (!k)) s') E s) : wpAny (model prog w) A (call (.builtin "object.__ne__") [.ref x, b]) Q E s := by
  refine wpAny_call (codeAny_call_builtin PySem.F.slot_object_ne.plain PySem.F.entry_object_ne (PySem.W.check_slot (i := "object.__ne__") (owner := "object") (n := "__ne__") (by decide +kernel) (by decide +kernel) (I.type.andThen (PySem.W.looks_mroIn X hm)) (PySem.F.args_object_ne_2 _ _) ?_))
  unfold Builtin.«object.__ne__»
  refine wpAny_bind (m := slotArgs "__ne__" 1 _) (wpAny_pure ?_)
  refine wpAny_bind (m := cRoomFor _ _) (wpAny_cRoomFor hu ?_)
  refine wpAny_bind (m := callSpecialIfBound? (.ref x) (Str.ofString "__eq__") _) (PySem.W.ifBound_K X I hr hf (wpAny_mono h (fun r s' hq => ?_) fun _ _ y => y))
  obtain ⟨k, rfl, q⟩ := hq
  exact wpAny_bind (wpAny_truthy_bool (wpAny_pure q))
theorem cmp_B {op : CmpOp} {Q : Value → Shared → Prop} (hu : A.units < cLine) (X : K.In s.heap) (I : PySem.W.InstAt s.heap x ox C od) (hb : PySem.W.Looks (model prog w) s.heap (typeOf b) tb) (hn : PySem.W.notFirst K C tb = true)
    (hs : PySem.W.findIn K (.ref C) (cmpInfo op).2.1 = some (some (.builtin id))) (hbs : ∀ self, bindSpecial (.builtin id) self = pure (.builtin id, [self]))
    (h : wpAny (model prog w) A (call (.builtin id) [.ref x, b]) (PySem.W.CmpBack Q) E s) : wpAny (model prog w) A (richCompare op (.ref x) b) Q E s := by
  have one : wpAny (model prog w) A (tryCompare (.ref x) (cmpInfo op).2.1 b) (fun r s' => ∃ v, r = some v ∧ Q v s') E s := by
    unfold tryCompare
    refine wpAny_bind (ifBound_B X I hs hbs (wpAny_mono h (fun v s' hv => ?_) fun _ _ e => e))
    cases v <;> first | exact hv.elim | exact wpAny_pure ⟨_, rfl, hv⟩
  unfold richCompare
  simp only [oneThing_ref]
  refine wpAny_holding (wpAny_bind (wpAny_cRoomFor hu ?_))
  refine wpAny_bind (I.type.here (wpAny_bind (hb.here ?_)))
  split
  · rename_i q
    have e : PySem.W.subIn K tb (.ref C) = some false := by
      rcases Bool.or_eq_true_iff.mp hn with e | e
      · rw [beq_iff_eq.mp e] at q; simp at q
      · exact beq_iff_eq.mp e
    refine wpAny_bind ((PySem.W.looks_subIn X e).here ?_)
    simp only [Bool.false_eq_true, if_false]
    refine wpAny_bind (wpAny_mono one (fun r s' z => ?_) fun _ _ e => e)
    obtain ⟨v, rfl, hq⟩ := z
    exact wpAny_pure hq
  · refine wpAny_bind (wpAny_pure ?_)
    simp only [Bool.false_eq_true, if_false]
    refine wpAny_bind (wpAny_mono one (fun r s' z => ?_) fun _ _ e => e)
    obtain ⟨v, rfl, hq⟩ := z
    exact wpAny_pure hq
end
section
variable {X : Cx} {C : Addr} {k : Nat} {m : Str} {ps : List Str} {sp : Sp} {pins : List (Addr × Obj)} {σ : L2.St} {H : Hp} {s : Shared}
theorem op_neO (T : Spc X C k "__eq__" ps sp) (hne : PySem.W.findIn X.K (.ref C) "__ne__" = some (some (.builtin "object.__ne__"))) (hm : PySem.W.mroIn X.K C (.type "object") = some true) (hr : Room (k + 1) X.A) : OpR X (compareOp .NotEq) (rOwnCmp X.K C sp true) := by
  intro pins s σ H x y v u Q I rx ry h
  obtain ⟨p, dx, fs, rfl, hp, ho, hs⟩ := h
  cases rx
  obtain ⟨f, fd, hf, hfn, hb, F⟩ := T.ex
  obtain ⟨mA, J, _⟩ := ins_get I.hok hp
  obtain ⟨od, J, _⟩ := J.look
  obtain ⟨tb, hL, hn⟩ := oth_looks (M := model X.prog X.w) I ho ry
  show wpAny _ _ (richCompare .NotEq (.ref p) u) _ _ _
  refine cmp_B (op := .NotEq) (tb := tb) hr.units0 I.kIn J hL hn hne PySem.F.slot_object_ne.bind (call_one hr.in1.units0 I.kIn J hm hf hfn (wpAny_mono (run_sub F hr.in1 (by simp) hb I (.cons (show L2.RelV (.ref p) (Value.ref p) from rfl) (.cons ry .nil)) hs) (fun r s' q => ?_) fun _ _ z => z))
  obtain ⟨w', H', I', rw', b, rfl, q⟩ := q
  obtain rfl : r = Value.bool b := rw'
  exact ⟨b, rfl, .bl (!b), H', I', rfl, q⟩
end
end T83

set_option Elab.async false
set_option linter.all false
set_option maxRecDepth 100000
set_option maxHeartbeats 4000000
/-! {**d, k: v} -/
namespace T83
open PySem PyProof.Rows
section
variable {prog : Program} {w : World} {K : Type} [DecidableEq K] {knd : KeyKind prog w K} {A : Around} {E : Value → Shared → Prop} {s : Shared}
theorem dictPut_pairs {d : Addr} {kvs : List (K × Value)} {k : K} {key v : Value} {Q : Unit → Shared → Prop} (hkey : knd.is k key = true) (hm : s.heap.DictOf knd d kvs)
    (hQ : ∀ h', h'.DictOf knd d (stored kvs k v) → Heap.SameBut d s.heap h' → Q () { s with heap := h' })
    (hsz : kvs.length ≤ sizeLine := by size_fits) :
    wpAny (model prog w) A (dictPut d (knd.hash k) key v) Q E s := by
  obtain ⟨o, es, ep, ho, hc, hd, hk, hp, hn⟩ := hm
  have hes : es.size ≤ sizeLine := by have e1 := hp.length; have e2 : es.toList.length = es.size := by simp
                                      omega
  unfold dictPut
  refine wpAny_bind (wpAny_dictFind_of hkey ho hd hk ?_)
  have hidx : (es.findIdx? fun e => knd.is k e.key) = kvs.findIdx? fun kv => decide (kv.1 = k) := by
    rw [← hp.findIdx k]; obtain ⟨l⟩ := es; simp
  cases hi : es.findIdx? fun e => knd.is k e.key with
  | some i =>
    refine wpAny_updateDict ho hd (hQ _ ⟨_, _, ep, Heap.get?_update_self _ ho (Obj.isFreed_of_dict (Obj.data_mapDict hd _)),
      hc.mapDict _, Obj.data_mapDict hd _, hk.modify _ _, ?_, ?_⟩ (Heap.SameBut.update ..))
    · rw [stored, if_pos (any_of_findIdx_some (hidx ▸ hi))]
      have hl : (es.toList.findIdx? fun e => knd.is k e.key) = some i := by rw [← hi]; obtain ⟨l⟩ := es; simp
      have := hp.modify hn hl v
      obtain ⟨l⟩ := es
      simpa using this
    · rw [stored, if_pos (any_of_findIdx_some (hidx ▸ hi)), keys_map_store]; exact hn
  | none =>
    have hnot : k ∉ kvs.map (·.1) := not_mem_of_findIdx_none (hidx ▸ hi)
    have hany : ¬ (kvs.any fun kv => decide (kv.1 = k)) = true := by
      rw [List.any_eq_true]; rintro ⟨kv, hkv, he⟩
      exact hnot (List.mem_map.mpr ⟨kv, hkv, of_decide_eq_true he⟩)
    refine wpAny_updateDictKeys (hz := hes) ho hd (hQ _ ⟨_, _, ep + 1, Heap.get?_update_self _ ho (Obj.isFreed_of_dict (Obj.data_mapDictKeys hd _)),
      hc.mapDictKeys _, Obj.data_mapDictKeys hd _, hk.push hkey _, ?_, ?_⟩ (Heap.SameBut.update ..))
    · rw [stored, if_neg hany]
      have := hp.append hkey (knd.hash k) v
      obtain ⟨l⟩ := es
      simpa using this
    · rw [stored, if_neg hany, List.map_append, List.nodup_append]
      refine ⟨hn, by simp, ?_⟩
      intro a ha b hb
      simp only [List.map_cons, List.map_nil, List.mem_singleton] at hb
      subst hb
      exact fun e => hnot (e ▸ ha)
theorem mergeMap_dict {d o : Addr} {kvs more : List (K × Value)} {Q : Unit → Shared → Prop} (hdo : d ≠ o) (hoS : (o == sysModules) = false)
    (hd : s.heap.DictOf knd d kvs) (ho : s.heap.DictOf knd o more)
    (hQ : ∀ h', h'.DictOf knd d (merged kvs more) → h'.DictOf knd o more → Heap.SameBut d s.heap h' → Q () { s with heap := h' })
    (hsz : kvs.length + more.length ≤ sizeLine := by size_fits) :
    wpAny (model prog w) A (mergeMapping d (.ref o) false) Q E s := by
  have hto := ho.typeIs
  obtain ⟨od, esd, epd, hod, hcd, hdd, hkd, hpd, hnd⟩ := id hd
  obtain ⟨oo, eso, epo, hoo, hco, hdo', hko, hpo, hno⟩ := id ho
  have hlen : more.length = eso.size := by rw [← hpo.length]; simp
  unfold mergeMapping
  refine wpAny_bind (wpAny_isInstance hto isSubtype_dict_dict ?_)
  simp only [if_true]
  refine wpAny_bind (wpAny_specialOf hto F.slot_dict_iter.lookup ?_)
  refine wpAny_bind (wpAny_pure ?_)
  simp only [beq_self_eq_true]
  rw [if_neg (by rw [hoS]; exact Bool.false_ne_true)]
  refine wpAny_bind (wpAny_dictEntries hod hdd ?_)
  simp only [Bool.false_eq_true, if_false]
  have loop : wpAny (model prog w) A (do
      let l ← dictEntries o
      let epoch ← dictEpoch o
      forIn (List.range l.size) PUnit.unit fun i (_ : PUnit) => (do
          let l' ← dictEntries o
          match l'[i]? with
            | some e => do
              holding [e.key, e.val] (dictPut d e.hash e.key e.val)
              let ep' ← dictEpoch o
              if (ep' != epoch) = true then do
                  (unsupported "dict.changed-during-merge" : Sem PUnit)
                  pure (ForInStep.yield PUnit.unit)
                else pure (ForInStep.yield PUnit.unit)
            | _ => do
              (unsupported "dict.changed-during-merge" : Sem PUnit)
              pure (ForInStep.yield PUnit.unit) : Sem (ForInStep PUnit))
      pure ()) Q E s := by
    refine wpAny_bind (wpAny_dictEntries hoo hdo' ?_)
    refine wpAny_bind (wpAny_dictEpoch hoo hdo' ?_)
    refine wpAny_bind ?_
    rw [List.range_eq_range']
    refine wpAny_forIn_list _
      (fun rest _ s' => ∃ h' i, s' = { s with heap := h' } ∧ rest = List.range' i (eso.size - i) ∧ i ≤ eso.size ∧ h'.DictOf knd d (merged kvs (more.take i)) ∧ h'.get? o = some oo ∧ Heap.SameBut d s.heap h')
      _ ?_ ?_ _ _ ⟨s.heap, 0, rfl, by simp, Nat.zero_le _, by simpa [merged] using hd, hoo, Heap.SameBut.refl _ _⟩
    · rintro x rest b s' ⟨h', i, rfl, hr, hi, hd', hoo', hs'⟩
      have hlt : i < eso.size := by
        rcases Nat.lt_or_ge i eso.size with h | h
        · exact h
        · rw [Nat.sub_eq_zero_of_le h] at hr; simp at hr
      obtain ⟨rfl, hrest⟩ : x = i ∧ rest = List.range' (i + 1) (eso.size - (i + 1)) := by
        have e : eso.size - i = (eso.size - (i + 1)) + 1 := by omega
        rw [e, List.range'_succ] at hr
        injection hr with h1 h2
        exact ⟨h1, h2⟩
      refine wpAny_bind (wpAny_dictEntries hoo' hdo' ?_)
      rw [Array.getElem?_eq_getElem hlt]
      obtain ⟨kv, hkv⟩ : ∃ kv, more[x]? = some kv := ⟨more[x]'(by rw [hlen]; exact hlt), List.getElem?_eq_getElem _⟩
      obtain ⟨k, v⟩ := kv
      obtain ⟨hkey, hval⟩ := hpo.get? (e := eso[x]) (by simp [hlt]) hkv
      obtain ⟨k', hkey', hhash⟩ := hko eso[x] (Array.getElem_mem hlt)
      obtain rfl : k' = k := knd.inj _ _ _ hkey' hkey
      show wpAny _ _ (holding [eso[x].key, eso[x].val] (dictPut d eso[x].hash eso[x].key eso[x].val) >>= _) _ _ _
      rw [hhash, hval]
      have hmx : (merged kvs (more.take x)).length ≤ sizeLine := by
        have e1 := merged_length_le kvs (more.take x)
        have e2 : (more.take x).length ≤ more.length := by rw [List.length_take]; omega
        omega
      refine wpAny_bind (wpAny_holding (dictPut_pairs (hsz := hmx) hkey hd' fun h'' hd'' hs'' => ?_))
      have hoo'' : h''.get? o = some oo := (hs''.2 o (Ne.symm hdo)).trans hoo'
      refine wpAny_bind (wpAny_dictEpoch hoo'' hdo' ?_)
      rw [if_neg (by simp)]
      exact wpAny_pure ⟨h'', x + 1, rfl, hrest, hlt, by rw [merged_take_succ kvs more x (k', v) hkv]; exact hd'', hoo'', hs'.trans hs''⟩
    · rintro b s' ⟨h', i, rfl, hr, hi, hd', hoo', hs'⟩
      have hin : i = eso.size := by
        rcases Nat.lt_or_ge i eso.size with h | h
        · have e : eso.size - i = (eso.size - (i + 1)) + 1 := by omega
          rw [e, List.range'_succ] at hr; exact nomatch hr
        · exact Nat.le_antisymm hi h
      refine wpAny_pure (hQ h' ?_ ⟨oo, eso, epo, hoo', hco, hdo', hko, hpo, hno⟩ hs')
      rw [hin, ← hlen, List.take_length] at hd'; exact hd'
  split
  · refine wpAny_bind (wpAny_dictEntries hoo hdo' ?_)
    refine wpAny_bind ?_
    rw [← Array.forIn_toList]
    rw [forIn_yield_id _ fun e he c => by
      obtain ⟨k, hkey, _⟩ := hko e (Array.mem_toList_iff.mp he)
      have hb := knd.byValue k _ hkey
      cases hk : e.key <;> first | rfl | (rw [hk] at hb; exact absurd hb Bool.false_ne_true)]
    refine wpAny_pure ?_
    exact loop
  · exact loop
end
open PySem.Spec L2
def tStar (td tk tv : TE) : TE := fun σ H Q => ∀ D, H D = none → td σ (upd H D (.dK [])) fun x H1 => ∃ o kvs, x = .ref o ∧ H1 o = some (.dK kvs) ∧ H1 D = some (.dK []) ∧ o ≠ D ∧ kvs.length < sizeLine ∧ ∀ S, H1 S = none → S ≠ D → tk σ (upd (upd H1 D (.dK kvs)) S (.dK [])) fun y H2 => tv σ H2 fun z H3 =>
  ∃ k, y = kV k ∧ H3 D = some (.dK kvs) ∧ H3 S = some (.dK []) ∧ D ≠ S ∧ Q (.ref D) (upd (upd H3 S (.dK [(k, z)])) D (.dK (putK kvs k z)))
theorem pe_star {X : Cx} {e kx vx : Expr} {td tk tv : TE} {pos : Pos} (hd : PE X e td) (hk : PE X kx tk) (hv : PE X vx tv) : PE X (.Dict [none, some kx] [e, vx] pos) (tStar td tk tv) := by
  refine ⟨fun pins s σ H Q I h => ?_⟩
  rw [arm_eval_Dict]
  refine wpAny_bind (wpAny_standAt ?_)
  have hs : (evalEachOpt [none, some kx] X.env).zip ((evalEach [e, vx] X.env).map fun v => do let x ← v; standAt pos; pure x) = [(none, (do let x ← eval e X.env; standAt pos; pure x)), (some (eval kx X.env), (do let x ← eval vx X.env; standAt pos; pure x))] := by rfl
  rw [hs]
  unfold dictDisplay
  dsimp only
  simp only [List.forIn_cons, List.forIn_nil]
  have hn := I.hok.fresh (Nat.le_refl s.heap.objs.size)
  have I1 := I.laid (a := s.heap.objs.size) (o := .dK []) (h' := s.heap.push { cls := .type "dict", data := .dict #[] }) (t' := s.toks) (fun _ _ q => Heap.get?_push_of_some _ q) (Nat.le_refl _) (dk_empty s.heap I.big)
  refine wpAny_bind ?_
  refine wpAny_bind ?_
  rw [if_pos (show ([] : List (Sem Value × Sem Value)).isEmpty = true from rfl)]
  refine wpAny_bind (wpAny_pure ?_)
  refine wpAny_bind (wpAny_alloc ?_)
  refine wpAny_bind (wpAny_holding (wpAny_bind (thn (hd.run pins _ σ _ _ I1 (h _ hn)) fun u s2 ⟨x, H2, I2, rx, o, kvs, ex, ho, hD, hne, hz, q⟩ => wpAny_bind (wpAny_standAt (wpAny_pure ?_)))))
  subst ex
  obtain rfl : u = Value.ref o := rx
  obtain ⟨z1, y1, vs1, r1, d1⟩ := dk_of I2.hok ho
  obtain ⟨z2, y2, vs2, r2, d2⟩ := dk_of I2.hok hD
  cases r2
  have l1 : vs1.length ≤ sizeLine := by rw [← r1.length]; exact z1
  have nd1 : (vs1.map (·.1)).Nodup := by
    obtain ⟨_, _, _, _, _, _, _, _, h⟩ := id d1
    exact h
  refine wpAny_bind (wpAny_onRaise (wpAny_tryCatch (wpAny_onRaise (wpAny_holding (mergeMap_dict (knd := mixKind X.prog X.w) (hsz := by simpa using l1) (Ne.symm hne) y1 d2 d1 fun h3 d3 d3' sb3 => ?_)))))
  rw [merged_nil_of_nodup _ nd1] at d3
  have e3 : ∃ q, h3.get? s.heap.objs.size = some q := let ⟨q, _, _, hq, _⟩ := d3; ⟨q, hq⟩
  have I3 : Inv X pins σ (upd H2 s.heap.objs.size (.dK kvs)) { s2 with heap := h3, toks := s2.toks } := d_write I2 (by rw [hD]; exact True.intro) sb3 e3 (dk_new z1 y2 r1 d3)
  refine wpAny_pure ?_
  dsimp only
  refine wpAny_bind ?_
  rw [if_neg (by simp)]
  refine wpAny_pure ?_
  dsimp only
  refine wpAny_pure ?_
  refine wpAny_bind ?_
  rw [if_neg (by simp)]
  have hn4 : H2 h3.objs.size = none := I2.hok.fresh (by rw [sb3.1]; exact Nat.le_refl _)
  have hD4 : h3.objs.size ≠ s.heap.objs.size := fun z => by
    rw [z, hD] at hn4
    cases hn4
  have hn5 : (upd H2 s.heap.objs.size (.dK kvs)) h3.objs.size = none := by rw [upd_ne hD4]; exact hn4
  have I4 := I3.laid (a := h3.objs.size) (o := .dK []) (h' := h3.push { cls := .type "dict", data := .dict #[] }) (t' := s2.toks) (fun _ _ q => Heap.get?_push_of_some _ q) (Nat.le_refl _) (dk_empty h3 I3.big)
  have hq := q h3.objs.size hn4 hD4
  refine wpAny_bind (wpAny_holding (wpAny_subDict (knd := mixKind X.prog X.w) (by simp) ?_))
  refine evalPairs_cons (thn (hk.run pins _ σ _ _ I4 hq) fun u5 s5 ⟨y, H5, I5, ry, q5⟩ => wpAny_bind (thn (hv.run pins _ σ _ _ I5 q5) fun u6 s6 ⟨z, H6, I6, rz, k, ek, hD6, hS6, hne6, q6⟩ => wpAny_bind (wpAny_standAt (wpAny_pure (evalPairs_nil ?_)))))
  subst ek
  obtain ⟨z7, y7, vs7, r7, d7⟩ := dk_of I6.hok hS6
  cases r7
  obtain ⟨z8, y8, vs8, r8, d8⟩ := dk_of I6.hok hD6
  refine ⟨[(k, u6)], ⟨kV_is ry, rfl, True.intro⟩, d7, fun h9 d9 sb9 => ?_⟩
  have l8 : vs8.length + 1 ≤ sizeLine := by rw [← r8.length]; omega
  have dd8 : h9.DictOf (mixKind X.prog X.w) s.heap.objs.size vs8 := d8.sameBut sb9 hne6
  refine wpAny_bind (wpAny_onRaise (wpAny_holding (mergeMap_dict (knd := mixKind X.prog X.w) (s := { s6 with heap := h9, toks := s6.toks + 1 }) (hsz := by show vs8.length + (merged [] [(k, u6)]).length ≤ sizeLine; exact l8) hne6 y7 dd8 d9 fun hA dA dA' sbA => ?_)))
  have m1 : merged ([] : List (Key × Value)) [(k, u6)] = [(k, u6)] := rfl
  have m2 : merged vs8 [(k, u6)] = stored vs8 k u6 := rfl
  rw [m1] at d9 dA'
  rw [m1, m2] at dA
  have e9 : ∃ q, h9.get? h3.objs.size = some q := let ⟨q, _, _, hq, _⟩ := d9; ⟨q, hq⟩
  have eA : ∃ q, hA.get? s.heap.objs.size = some q := let ⟨q, _, _, hq, _⟩ := dA; ⟨q, hq⟩
  have I9 : Inv X pins σ (upd H6 h3.objs.size (.dK [(k, z)])) { s6 with heap := h9, toks := s6.toks + 1 } := d_write I6 (by rw [hS6]; exact True.intro) sb9 e9 (dk_new (by show 1 ≤ sizeLine; rw [sizeLine_eq]; decide) y7 (.cons ⟨rfl, rz⟩ .nil) d9)
  have hD9 : (upd H6 h3.objs.size (.dK [(k, z)])) s.heap.objs.size = some (.dK kvs) := by rw [upd_ne (Ne.symm hD4)]; exact hD6
  have IA : Inv X pins σ (upd (upd H6 h3.objs.size (.dK [(k, z)])) s.heap.objs.size (.dK (putK kvs k z))) { s6 with heap := hA, toks := s6.toks + 1 } :=
    d_write (s := { s6 with heap := h9, toks := s6.toks + 1 }) I9 (by rw [hD9]; exact True.intro) sbA eA (dk_new (by have := length_putK kvs k z; omega) y8 (r8.put k rz) dA)
  exact wpAny_pure (wpAny_pure ⟨.ref s.heap.objs.size, _, IA, rfl, q6⟩)
end T83

set_option Elab.async false
set_option linter.all false
set_option maxRecDepth 100000
set_option maxHeartbeats 2000000
namespace T83
open PySem PySem.Spec PyProof.Rows L2 RZ
theorem upd_old {H : Hp} {t : Addr} (h : H t = none) {b : Addr} {o : HO} (e : H b = some o) {u : HO} : upd H t u b = some o := by
  rw [upd_ne (ne_of_none e h)]
  exact e
theorem putA_map {κ α β : Type} [DecidableEq κ] (g : α → β) (d : List (κ × α)) (k : κ) (v : α) : (putA d k v).map (fun p => (p.1, g p.2)) = putA (d.map fun p => (p.1, g p.2)) k (g v) := by
  unfold putA
  have ha : ((d.map fun p => (p.1, g p.2)).any fun p => decide (p.1 = k)) = d.any fun p => decide (p.1 = k) := by
    rw [List.any_map]
    rfl
  rw [ha]
  cases d.any fun p => decide (p.1 = k) with
  | false => simp
  | true =>
    rw [if_pos rfl, if_pos rfl, List.map_map, List.map_map]
    refine List.map_congr_left fun p _ => ?_
    show ((if p.1 = k then (p.1, v) else p).1, g (if p.1 = k then (p.1, v) else p).2) = if p.1 = k then (p.1, g v) else (p.1, g p.2)
    by_cases z : p.1 = k
    · rw [if_pos z, if_pos z]
    · rw [if_neg z, if_neg z]
theorem getA_mapV {κ α β : Type} [DecidableEq κ] (g : α → β) (d : List (κ × α)) (k : κ) : getA (d.map fun p => (p.1, g p.2)) k = (getA d k).map g := by
  induction d with
  | nil => rfl
  | cons p d ih =>
    rw [List.map_cons, getA_cons, getA_cons]
    by_cases h : p.1 = k
    · rw [if_pos h, if_pos h]
      rfl
    · rw [if_neg h, if_neg h, ih]
/-! ### what stands under the names -/
abbrev Acc : Type := List (Str × Mach)
abbrev Ent : Type := Str × (V × Mach)
def EOk (H : Hp) (es : List Ent) : Prop := ∀ e ∈ es, (∃ b, e.2.1 = V.ref b) ∧ Tp H e.2.1 (dM e.2.2)
def kvE (es : List Ent) : List (Key × V) := es.map fun e => ((Sum.inr e.1 : Key), e.2.1)
def accE (es : List Ent) : Acc := es.map fun e => (e.1, e.2.2)
structure DE (H : Hp) (a : Addr) (es : List Ent) : Prop where
  at_ : H a = some (.dK (kvE es))
  ok : EOk H es
theorem EOk.keep {H H' : Hp} {es : List Ent} (h : EOk H es) (k : TupK H H') : EOk H' es := fun e he => ⟨(h e he).1, (h e he).2.keep k⟩
theorem DE.same {H H' : Hp} {a : Addr} {es : List Ent} (h : DE H a es) (k : Same H H') : DE H' a es := ⟨k _ _ h.at_, h.ok.keep k.tups⟩
theorem DE.kt {S : List Addr} {H H' : Hp} {a : Addr} {es : List Ent} (h : DE H a es) (k : Kt S H H') (m : Mu H S) : DE H' a es := ⟨k.at m h.at_ (fun z => z) (fun ps z => by cases z), h.ok.keep (k.tups m)⟩
theorem DE.kp {S : List Addr} {H H' : Hp} {a : Addr} {es : List Ent} (h : DE H a es) (k : Kp S H H') (m : Mu H S) : DE H' a es := h.kt k.kt m
theorem inr_inj : ∀ a b : Str, (Sum.inr a : Key) = Sum.inr b → a = b := fun a b h => by injection h
theorem kvE_put (es : List Ent) (n : Str) (v : V) (m : Mach) : putK (kvE es) (Sum.inr n) v = kvE (putA es n (v, m)) := putK_enc inr_inj (fun p : V × Mach => p.1) es n (v, m)
theorem accE_put (es : List Ent) (n : Str) (v : V) (m : Mach) : accE (putA es n (v, m)) = putA (accE es) n m := putA_map (fun p : V × Mach => p.2) es n (v, m)
theorem kvE_get (es : List Ent) (n : Str) : valV (kvE es) (Sum.inr n) = (getA es n).map fun p => p.1 := valV_enc inr_inj (fun p : V × Mach => p.1) es n
theorem accE_get (es : List Ent) (n : Str) : getA (accE es) n = (getA es n).map fun p => p.2 := getA_mapV (fun p : V × Mach => p.2) es n
theorem EOk.put {H : Hp} {es : List Ent} (h : EOk H es) {n : Str} {b : Addr} {m : Mach} (hb : Tp H (.ref b) (dM m)) : EOk H (putA es n (.ref b, m)) := fun e he => by
  rcases mem_put he with z | z
  · exact h e z
  · rw [z]
    exact ⟨⟨b, rfl⟩, hb⟩
theorem kvE_len (es : List Ent) : (kvE es).length = es.length := List.length_map _
theorem accE_len (es : List Ent) : (accE es).length = es.length := List.length_map _
/-! ### the class -/
structure MAt (K : PySem.W.Frag) (m q : Str) (j : Nat) : Prop where
  ex : ∃ f fd, Meth K (aS K) m f ∧ FnP K m q (inClass (top 100) j) f fd
structure Fs (K : PySem.W.Frag) (mg : Str → Option Value) : Prop where
  cl : Cls K (aS K)
  n1 : NoAttr K (aS K) "own_machines"
  n2 : NoAttr K (aS K) "own_past"
  n3 : NoAttr K (aS K) "own_future"
  n4 : NoAttr K (aS K) "own_answers"
  gS : mg "Shelf" = some (.ref (aS K))
  mkr : ∃ f fd, Mk K (aS K) f ∧ FnP K "__init__" "Shelf.__init__" (inClass (top 100) 0) f fd
  pr : ∃ p g fd, PropOf K (aS K) "names" p g ∧ FnP K "names" "Shelf.names" (inClass (top 100) 14) g fd
  step : MAt K "step" "Shelf.step" 1
  put : MAt K "put" "Shelf.put" 2
  drop : MAt K "drop" "Shelf.drop" 3
  price : MAt K "price" "Shelf.price" 4
  part : MAt K "part" "Shelf.part" 5
  less : MAt K "less" "Shelf.less" 6
  undo : MAt K "undo" "Shelf.undo" 7
  redo : MAt K "redo" "Shelf.redo" 8
  known : MAt K "require_known" "Shelf.require_known" 9
  machine : MAt K "machine" "Shelf.machine" 10
  twin : MAt K "twin" "Shelf.twin" 15
  has : MAt K "__contains__" "Shelf.__contains__" 16
  len : MAt K "__len__" "Shelf.__len__" 17
  eq : MAt K "__eq__" "Shelf.__eq__" 18
  str : MAt K "__str__" "Shelf.__str__" 19
  ne : PySem.W.findIn K (.ref (aS K)) "__ne__" = some (some (.builtin "object.__ne__"))
  ob : PySem.W.mroIn K (aS K) (.type "object") = some true
  intS : PySem.W.subIn K (.type "int") (.ref (aS K)) = some false
  intK : PySem.W.kitOne K (.type "int") (.ref (aS K)) = some false
  ha : PySem.W.findIn K (.ref (aS K)) "__class__" = some (some (.builtin "object.__class__"))
  hn : PySem.W.specialIn K (.builtin "object.__class__") "__get__" = some (some (.builtin "getset_descriptor.__get__"))
  htk : PySem.W.takesIn K (.builtin "object.__class__") = some true
/-- a method that keeps a promise -/
structure CalM (P : Program) (w : World) (K : PySem.W.Frag) (mg : Str → Option Value) (base : Heap) (CX : CXT) (k : Nat) (m : Str) (ps : List Str) (sp : Sp) : Prop where
  ex : ∃ f fd, Meth K (aS K) m f ∧ Binds K fd ps [] ∧ FnOk P w K mg base CX k f fd ps sp
section
variable {P : Program} {w : World} {K : PySem.W.Frag} {mg : Str → Option Value} {base : Heap} {CX : CXT}
theorem CalM.mono {j k : Nat} {x : Str} {ps : List Str} {sp : Sp} (C : CalM P w K mg base CX j x ps sp) (h : j ≤ k) : CalM P w K mg base CX k x ps sp := by
  obtain ⟨f, fd, a, c, d⟩ := C.ex
  exact ⟨f, fd, a, c, d.mono h⟩
theorem calm_of {m q : Str} {j : Nat} {N ps : List Str} {k : Nat} {sp : Sp} (F : MAt K m q j) (S : FnScope N ps (defScope (inClass (top 100) j))) (len : ∀ vs H Q E, sp vs H Q E → vs.length = ps.length)
    (hb : ∀ (kV doc pm : Value) (an : Option Addr) (cdv ct : Value) (us : List Value), us.length = ps.length → bindArgs (PySem.W.fnOf m q (defArgs (inClass (top 100) j)) (defBody (inClass (top 100) j)) (defScope (inClass (top 100) j)) .none kV doc pm an cdv ct) ⟨us, []⟩ = pure (ps.zip us))
    (hbody : ∀ (f : Addr) (cdv : Value) (A : Around) (outer : List Env) (s : Shared) (H : Hp) (vs : List V) (Q : VK) (E : XK), Room k (A.deeper (envOfC q (defScope (inClass (top 100) j)) s.heap.objs.size f cdv)) → sp vs H Q E →
      ∃ t, PSs (cxOf CX P w K mg base N q (defScope (inClass (top 100) j)) f cdv A outer s H E) (defBody (inClass (top 100) j)) t ∧ t { nx := fun _ H' => Q .non H', rt := Q } (start N vs) H) : CalM P w K mg base CX (k + 1) m ps sp := by
  obtain ⟨f, fd, hm, D⟩ := F.ex
  exact ⟨f, fd, hm, D.bindsN hb, D.ok S len fun cdv A outer s H vs Q E hr h => hbody f cdv A outer s H vs Q E hr h⟩
end
section
variable {X : Cx} {CX : CXT} {k : Nat} {m : Str} {ps : List Str} {sp : Sp} {o e : Expr} {es : List Expr} {ta : TE} {t : TA} {apos pos : Pos} {E : XK}
theorem CalM.spc (C : CalM X.prog X.w X.K X.mg X.base CX0 k m ps sp) : Spc X (aS X.K) k m ps sp := by
  obtain ⟨f, fd, a, b, d⟩ := C.ex
  exact ⟨f, fd, a.at_, a.fn, b, d⟩
theorem pe_calm {pl : Sem Bool} (c : Cls X.K (aS X.K)) (C : CalM X.prog X.w X.K X.mg X.base CX k m ps sp) (hr : Room k X.A) (hx : Passes CX X E) (he : PE X o ta) (ha : PA X (e :: es) t)
    (hst : starEach (e :: es) X.env = (false, eval e X.env) :: starEach es X.env := by rfl) (hpl : (backTo pos (starEach es X.env)).any (·.1) = false := by rfl)
    (ht : eval (.Call (.Attribute o m apos) (e :: es) [] pos) X.env = (do
      let ov ← eval o X.env
      standAt apos.atName
      let (f, first) ← holding [ov] (getMethod ov m pl)
      callWith pos f first (backTo pos (starEach (e :: es) X.env)) (backToKw pos (keywordEach [] X.env))) := by rfl) :
    PE X (.Call (.Attribute o m apos) (e :: es) [] pos) (tMeth (aS X.K) m sp [] E ta t) := by
  obtain ⟨f, fd, a, b, d⟩ := C.ex
  exact pe_meth he c a d hr b .nil hx ha hst hpl ht
theorem pe_calm0 {pl : Sem Bool} (c : Cls X.K (aS X.K)) (C : CalM X.prog X.w X.K X.mg X.base CX k m ps sp) (hr : Room k X.A) (hx : Passes CX X E) (he : PE X o ta)
    (ht : eval (.Call (.Attribute o m apos) [] [] pos) X.env = (do
      let ov ← eval o X.env
      standAt apos.atName
      let (f, first) ← holding [ov] (getMethod ov m pl)
      callWith pos f first (backTo pos (starEach [] X.env)) (backToKw pos (keywordEach [] X.env))) := by rfl) :
    PE X (.Call (.Attribute o m apos) [] [] pos) (tMeth (aS X.K) m sp [] E ta tNil) := by
  obtain ⟨f, fd, a, b, d⟩ := C.ex
  exact pe_meth0 he c a d hr b .nil hx ht
end
/-! ### a shelf -/
abbrev shO (K : PySem.W.Frag) (dx cur lp lf an : Addr) : HO := .ins (aS K) dx [("own_machines", .ref cur), ("own_past", .ref lp), ("own_future", .ref lf), ("own_answers", .ref an)]
structure Shf (K : PySem.W.Frag) (H : Hp) (p dx lp lf an : Addr) (past : List Addr) (cur : Addr) (fut : List Addr) : Prop where
  at_ : H p = some (shO K dx cur lp lf an)
  lp_ : H lp = some (.lst (past.map V.ref))
  lf_ : H lf = some (.lst (fut.map V.ref))
  an_ : H an = some (.dK [])
  ne : lp ≠ lf
section
variable {P : Program} {w : World} {K : PySem.W.Frag} {mg : Str → Option Value} {base : Heap}
/-! ### __init__ -/
theorem scInit : FnScope ["self"] ["self"] (defScope (inClass (top 100) 0)) := ⟨rfl, rfl, rfl, by decide +kernel, rfl, by decide +kernel, by decide +kernel⟩
def spInit (K : PySem.W.Frag) : Sp := fun vs H Q _ => ∃ p dx, vs = [.ref p] ∧ H p = some (.ins (aS K) dx []) ∧ ∀ H' cur lp lf an, Kp [p] H H' → H cur = none → H lp = none → H lf = none → H an = none → H' cur = some (.dK []) → Shf K H' p dx lp lf an [] cur [] → Q .non H'
theorem ok_init (T : Fs K mg) : ∃ f fd, Mk K (aS K) f ∧ Binds K fd ["self"] [] ∧ FnOk P w K mg base CX0 1 f fd ["self"] (spInit K) := by
  obtain ⟨f, fd, M, D⟩ := T.mkr
  refine ⟨f, fd, M, D.bindsN fun _ _ _ _ _ _ us hl => match us, hl with | [_], _ => rfl, D.ok scInit (fun vs H Q E h => ?_) fun cdv A outer s H vs Q E hr h => ⟨_, PSs.nox (pss_cons (ps_fld (pv 0) pe_dnewK rfl) (pss_cons (ps_fld (pv 0) (pe_lst pa_nil) rfl) (pss_cons (ps_fld (pv 0) (pe_lst pa_nil) rfl) (pss_one (ps_fld (pv 0) pe_dnewK rfl))))), ?_⟩⟩
  · obtain ⟨p, dx, rfl, _⟩ := h
    rfl
  · obtain ⟨p, dx, rfl, hp, hq⟩ := h
    refine fun cur hcur => ?_
    have p1 : (upd H cur (.dK [])) p = some (.ins (aS K) dx []) := upd_old hcur hp
    refine ⟨_, rfl, p, _, dx, _, rfl, p1, T.cl, T.n1, by decide, ?_⟩
    generalize hH2 : upd (upd H cur (.dK [])) p (.ins (aS K) dx (putF "own_machines" (.ref cur) [])) = H2
    have p2 : H2 p = some (.ins (aS K) dx [("own_machines", .ref cur)]) := by rw [← hH2, upd_same]; rfl
    have c2 : H2 cur = some (.dK []) := by rw [← hH2, upd_ne (ne_of_none hp hcur).symm, upd_same]
    have k2 : Kp [p] H H2 := by
      rw [← hH2]
      exact ((Kp.refl [p] H).put (.inr hcur)).put (.inl (by simp))
    have f2 : ∀ b, H2 b = none → H b = none := fun b hb => by
      cases e : H b with
      | none => rfl
      | some o =>
        by_cases z : b = p
        · rw [z, p2] at hb
          cases hb
        · have := k2 b o e (by simpa using z)
          rw [hb] at this
          cases this
    refine ⟨Nat.zero_le _, fun lp hlp => ?_⟩
    have p3 := upd_old (u := .lst []) hlp p2
    refine ⟨_, rfl, p, _, dx, _, rfl, p3, T.cl, T.n2, (show (1 : Nat) < 1000 by decide), ?_⟩
    have nf : ∀ {Hx : Hp} {q : Addr} {b : Addr}, Kp [p] H Hx → (∃ o, Hx p = some o) → Hx b = none → H b = none := fun {Hx q b} k hp' hb => by
      cases e : H b with
      | none => rfl
      | some o =>
        by_cases z : b = p
        · obtain ⟨o', e'⟩ := hp'
          rw [z, e'] at hb
          cases hb
        · have := k b o e (by simpa using z)
          rw [hb] at this
          cases this
    have hlp0 := nf (q := p) k2 ⟨_, p2⟩ hlp
    generalize hH4 : upd (upd H2 lp (.lst [])) p (.ins (aS K) dx (putF "own_past" (.ref lp) [("own_machines", .ref cur)])) = H4
    have k4 : Kp [p] H H4 := by
      rw [← hH4]
      exact (k2.put (.inr hlp0)).put (.inl (by simp))
    have p4 : H4 p = some (.ins (aS K) dx [("own_machines", .ref cur), ("own_past", .ref lp)]) := by rw [← hH4, upd_same]; rfl
    have c4 : H4 cur = some (.dK []) := by
      rw [← hH4, upd_ne (ne_of_none hp hcur).symm]
      exact upd_old hlp c2
    have l4 : H4 lp = some (.lst []) := by rw [← hH4, upd_ne (ne_of_none p2 hlp).symm, upd_same]
    refine ⟨Nat.zero_le _, fun lf hlf => ?_⟩
    have p5 := upd_old (u := .lst []) hlf p4
    refine ⟨_, rfl, p, _, dx, _, rfl, p5, T.cl, T.n3, (show (2 : Nat) < 1000 by decide), ?_⟩
    have hlf0 := nf (q := p) k4 ⟨_, p4⟩ hlf
    generalize hH6 : upd (upd H4 lf (.lst [])) p (.ins (aS K) dx (putF "own_future" (.ref lf) [("own_machines", .ref cur), ("own_past", .ref lp)])) = H6
    have k6 : Kp [p] H H6 := by
      rw [← hH6]
      exact (k4.put (.inr hlf0)).put (.inl (by simp))
    have p6 : H6 p = some (.ins (aS K) dx [("own_machines", .ref cur), ("own_past", .ref lp), ("own_future", .ref lf)]) := by rw [← hH6, upd_same]; rfl
    have c6 : H6 cur = some (.dK []) := by
      rw [← hH6, upd_ne (ne_of_none hp hcur).symm]
      exact upd_old hlf c4
    have l6 : H6 lp = some (.lst []) := by
      rw [← hH6, upd_ne (ne_of_none p2 hlp).symm]
      exact upd_old hlf l4
    have m6 : H6 lf = some (.lst []) := by rw [← hH6, upd_ne (ne_of_none p4 hlf).symm, upd_same]
    refine fun an han => ?_
    have p7 := upd_old (u := .dK []) han p6
    refine ⟨_, rfl, p, _, dx, _, rfl, p7, T.cl, T.n4, (show (3 : Nat) < 1000 by decide), ?_⟩
    have han0 := nf (q := p) k6 ⟨_, p6⟩ han
    refine hq _ cur lp lf an ((k6.put (.inr han0)).put (.inl (by simp))) hcur hlp0 hlf0 han0 ?_ ⟨?_, ?_, ?_, ?_, ne_of_none l4 hlf⟩
    · rw [upd_ne (ne_of_none hp hcur).symm]
      exact upd_old han c6
    · rw [upd_same]
      rfl
    · rw [upd_ne (ne_of_none p2 hlp).symm]
      exact upd_old han l6
    · rw [upd_ne (ne_of_none p4 hlf).symm]
      exact upd_old han m6
    · rw [upd_ne (ne_of_none p6 han).symm, upd_same]
end
end T83

set_option Elab.async false
set_option linter.all false
set_option maxRecDepth 100000
set_option maxHeartbeats 2000000
namespace T83
open PySem PySem.Spec PyProof.Rows L2 RZ
theorem Shf.mu {K : PySem.W.Frag} {H : Hp} {p dx lp lf an cur : Addr} {past fut : List Addr} (s : Shf K H p dx lp lf an past cur fut) : Mu H [p, lp, lf] := Mu.cons s.at_ True.intro (Mu.cons s.lp_ True.intro (Mu.cons s.lf_ True.intro (Mu.nil H)))
theorem Shf.same {K : PySem.W.Frag} {H H' : Hp} {p dx lp lf an cur : Addr} {past fut : List Addr} (s : Shf K H p dx lp lf an past cur fut) (k : Same H H') : Shf K H' p dx lp lf an past cur fut := ⟨k _ _ s.at_, k _ _ s.lp_, k _ _ s.lf_, k _ _ s.an_, s.ne⟩
theorem Shf.kt {K : PySem.W.Frag} {S : List Addr} {H H' : Hp} {p dx lp lf an cur : Addr} {past fut : List Addr} (s : Shf K H p dx lp lf an past cur fut) (k : Kt S H H') (h1 : p ∉ S) (h2 : lp ∉ S) (h3 : lf ∉ S) (h4 : an ∉ S) : Shf K H' p dx lp lf an past cur fut :=
  ⟨k _ _ s.at_ h1 (fun ps z => by cases z), k _ _ s.lp_ h2 (fun ps z => by cases z), k _ _ s.lf_ h3 (fun ps z => by cases z), k _ _ s.an_ h4 (fun ps z => by cases z), s.ne⟩
section
variable {P : Program} {w : World} {K : PySem.W.Frag} {mg : Str → Option Value} {base : Heap}
/-! ### step -/
theorem scStep : FnScope ["self", "machines"] ["self", "machines"] (defScope (inClass (top 100) 1)) := ⟨rfl, rfl, rfl, by decide +kernel, rfl, by decide +kernel, by decide +kernel⟩
def spStep (K : PySem.W.Frag) : Sp := fun vs H Q _ => ∃ p dx lp lf an past cur fut d, vs = [.ref p, .ref d] ∧ Shf K H p dx lp lf an past cur fut ∧ past.length ≤ 1000 ∧ ∀ H' lf', H lf' = none → Kp [p, lp] H H' → Shf K H' p dx lp lf' an (past ++ [cur]) d [] → Q .non H'
theorem ok_step (T : Fs K mg) : CalM P w K mg base CX0 1 "step" ["self", "machines"] (spStep K) := by
  refine calm_of T.step scStep (fun vs H Q E h => ?_) (fun _ _ _ _ _ _ us hl => match us, hl with | [_, _], _ => rfl) fun f cdv A outer s H vs Q E hr h => ⟨_, PSs.nox (pss_cons (ps_expr (pe_bm PySem.F.plainAttrs_list PySem.F.slot_list_append PySem.F.type_list_append mt_append (pe_fld (pv 0) rfl) (pa_cons (pe_fld (pv 0) rfl) pa_nil)))
    (pss_cons (ps_fld (pv 0) (pe_lst pa_nil) rfl) (pss_one (ps_fld (pv 0) (pv 1) rfl)))), ?_⟩
  · obtain ⟨p, dx, lp, lf, an, past, cur, fut, d, rfl, _⟩ := h
    rfl
  · obtain ⟨p, dx, lp, lf, an, past, cur, fut, d, rfl, sh, hl, hq⟩ := h
    have hpl : p ≠ lp := ne_of sh.at_ sh.lp_ (by intro z; cases z)
    have hal : an ≠ lp := ne_of sh.an_ sh.lp_ (by intro z; cases z)
    have hap : an ≠ p := ne_of sh.an_ sh.at_ (by intro z; cases z)
    refine ⟨_, rfl, p, _, dx, _, _, rfl, sh.at_, T.cl, T.n2, rfl, .inl ⟨rfl, _, .inl (.inl sh.lp_)⟩, ?_⟩
    refine ⟨_, rfl, p, _, dx, _, _, rfl, sh.at_, T.cl, T.n1, rfl, lp, _, _, rfl, rfl, sh.lp_, by rw [List.length_map, sizeLine_eq]; omega, ?_⟩
    generalize hH1 : upd H lp (.lst (past.map V.ref ++ [V.ref cur])) = H1
    have p1 : H1 p = some (shO K dx cur lp lf an) := by rw [← hH1, upd_ne hpl]; exact sh.at_
    have l1 : H1 lp = some (.lst ((past ++ [cur]).map V.ref)) := by rw [← hH1, upd_same, List.map_append]; rfl
    have a1 : H1 an = some (.dK []) := by rw [← hH1, upd_ne hal]; exact sh.an_
    refine ⟨Nat.zero_le _, fun lf' hlf => ?_⟩
    have hlf0 : H lf' = none := by
      have hne := (ne_of_none l1 hlf).symm
      rw [← hH1, upd_ne hne] at hlf
      exact hlf
    refine ⟨_, rfl, p, _, dx, _, rfl, upd_old hlf p1, T.cl, T.n3, (show (4 : Nat) < 1000 by decide), ?_⟩
    have p2 : (upd (upd H1 lf' (.lst [])) p (.ins (aS K) dx (putF "own_future" (.ref lf') [("own_machines", .ref cur), ("own_past", .ref lp), ("own_future", .ref lf), ("own_answers", .ref an)]))) p = some (shO K dx cur lp lf' an) := by rw [upd_same]; rfl
    refine ⟨_, rfl, _, rfl, p, _, dx, _, rfl, p2, T.cl, T.n1, (show (4 : Nat) < 1000 by decide), ?_⟩
    have hpf : lf' ≠ p := (ne_of_none p1 hlf).symm
    refine hq _ lf' hlf0 ?_ ⟨?_, ?_, ?_, ?_, ne_of_none l1 hlf⟩
    · refine Kp.put (Kp.put (Kp.put ?_ (.inr hlf0)) (.inl (by simp))) (.inl (by simp))
      rw [← hH1]
      exact kp_upd (.inl (by simp))
    · rw [upd_same]
      rfl
    · rw [upd_ne hpl.symm, upd_ne hpl.symm]
      exact upd_old hlf l1
    · rw [upd_ne hpf, upd_ne hpf, upd_same]
      rfl
    · rw [upd_ne hap, upd_ne hap]
      exact upd_old hlf a1
/-! ### in, len -/
theorem scHas : FnScope ["self", "name"] ["self", "name"] (defScope (inClass (top 100) 16)) := ⟨rfl, rfl, rfl, by decide +kernel, rfl, by decide +kernel, by decide +kernel⟩
def hasN (L : Acc) : PyData → Bool
  | .str z => (getA L z).isSome
  | _ => false
def spHas (K : PySem.W.Frag) : Sp := fun vs H Q _ => ∃ p dx cur lp lf an es x d, vs = [.ref p, x] ∧ H p = some (shO K dx cur lp lf an) ∧ DE H cur es ∧ Dv H x d ∧ Q (.bl (hasN (accE es) d)) H
theorem ok_has (F : Fx K mg) (T : Fs K mg) : CalM P w K mg base CX0 1 "__contains__" ["self", "name"] (spHas K) := by
  refine calm_of T.has scHas (fun vs H Q E h => ?_) (fun _ _ _ _ _ _ us hl => match us, hl with | [_, _], _ => rfl) fun f cdv A outer s H vs Q E hr h => ⟨_, PSs.nox (pss_one (ps_ret (pe_and (pe_isi (T := "str") (F.b "isinstance" (by decide)) (F.b "str" (by decide)) (pv 1)) (pe_one (pe_cmp (pc_din (hu_of hr) (pv 1) (pe_fld (pv 0) rfl)) rfl))))), ?_⟩
  · obtain ⟨p, dx, cur, lp, lf, an, es, x, d, rfl, _⟩ := h
    rfl
  · obtain ⟨p, dx, cur, lp, lf, an, es, x, d, rfl, hp, he, hd, hq⟩ := h
    refine ⟨_, rfl, _, .ty "str", _, _, _, rfl, .ty _, hd.ty, kit_str d, _, rfl, ?_⟩
    cases hS : isS d with
    | false =>
      have e : hasN (accE es) d = false := by cases d <;> first | rfl | cases hS
      rw [e] at hq
      exact iteF hq
    | true =>
      obtain ⟨z, rfl, rfl⟩ := isS_of hd hS
      refine iteT ⟨_, rfl, _, rfl, p, _, dx, _, _, rfl, hp, T.cl, T.n1, rfl, cur, _, rfl, DGet.k (k := Sum.inr z) he.at_, ?_⟩
      have e : hasN (accE es) (.str z) = (valV (kvE es) (Sum.inr z)).isSome := by
        show (getA (accE es) z).isSome = _
        rw [accE_get, kvE_get, Option.isSome_map, Option.isSome_map]
      rw [e] at hq
      exact hq
theorem scLen : FnScope ["self"] ["self"] (defScope (inClass (top 100) 17)) := ⟨rfl, rfl, rfl, by decide +kernel, rfl, by decide +kernel, by decide +kernel⟩
def spLen (K : PySem.W.Frag) : Sp := fun vs H Q _ => ∃ p dx cur lp lf an kvs, vs = [.ref p] ∧ H p = some (shO K dx cur lp lf an) ∧ H cur = some (.dK kvs) ∧ Q (.int kvs.length) H
theorem ok_len (F : Fx K mg) (T : Fs K mg) : CalM P w K mg base CX0 1 "__len__" ["self"] (spLen K) := by
  refine calm_of T.len scLen (fun vs H Q E h => ?_) (fun _ _ _ _ _ _ us hl => match us, hl with | [_], _ => rfl) fun f cdv A outer s H vs Q E hr h => ⟨_, PSs.nox (pss_one (ps_ret (pe_callB call_lenD (by rfl) (F.b "len" (by decide)) boot_len (pa_cons (pe_fld (pv 0) rfl) pa_nil)))), ?_⟩
  · obtain ⟨p, dx, cur, lp, lf, an, es, rfl, _⟩ := h
    rfl
  · obtain ⟨p, dx, cur, lp, lf, an, es, rfl, hp, he, hq⟩ := h
    exact ⟨_, rfl, p, _, dx, _, _, rfl, hp, T.cl, T.n1, rfl, cur, _, rfl, he, hq⟩
/-! ### require_known, machine -/
theorem scKnown : FnScope ["self", "name"] ["self", "name"] (defScope (inClass (top 100) 9)) := ⟨rfl, rfl, rfl, by decide +kernel, rfl, by decide +kernel, by decide +kernel⟩
def spKnown (K : PySem.W.Frag) : Sp := fun vs H Q E => ∃ p dx cur lp lf an es x d, vs = [.ref p, x] ∧ H p = some (shO K dx cur lp lf an) ∧ DE H cur es ∧ Dv H x d ∧ (hasN (accE es) d = true → Q .non H) ∧ (hasN (accE es) d = false → BadN E (cA K "UnknownName") "name" x H)
theorem ok_known (E0 : Fe P K mg) (T : Fs K mg) (G : CalM P w K mg base CX0 1 "__contains__" ["self", "name"] (spHas K)) : CalM P w K mg base (L2.CX P w) 2 "require_known" ["self", "name"] (spKnown K) := by
  refine calm_of T.known scKnown (fun vs H Q E h => ?_) (fun _ _ _ _ _ _ us hl => match us, hl with | [_, _], _ => rfl) fun f cdv A outer s H vs Q E hr h => ⟨_, pss_one (ps_if (pt_cmpR (op_notInO (X := cxOf (L2.CX P w) P w K mg base ["self", "name"] "Shelf.require_known" (defScope (inClass (top 100) 9)) f cdv A outer s H E) (CalM.spc (X := cxOf (L2.CX P w) P w K mg base ["self", "name"] "Shelf.require_known" (defScope (inClass (top 100) 9)) f cdv A outer s H E) G) hr) (pv 1) (pv 0) (by rfl)) (pss_one (ps_unk E0 rfl hr (takes_of rfl rfl rfl rfl) (pv 1))) pss_nil), ?_⟩
  · obtain ⟨p, dx, cur, lp, lf, an, es, x, d, rfl, _⟩ := h
    rfl
  · obtain ⟨p, dx, cur, lp, lf, an, es, x, d, rfl, hp, he, hd, hq, hb⟩ := h
    refine ⟨_, rfl, _, rfl, p, dx, _, rfl, hp, p, dx, cur, lp, lf, an, es, x, d, rfl, hp, he, hd, _, rfl, _, rfl, ?_⟩
    cases e : hasN (accE es) d with
    | true => exact iteF (hq e)
    | false => exact iteT ⟨_, rfl, hb e⟩
theorem scMachine : FnScope ["self", "name"] ["self", "name"] (defScope (inClass (top 100) 10)) := ⟨rfl, rfl, rfl, by decide +kernel, rfl, by decide +kernel, by decide +kernel⟩
def spMachine (K : PySem.W.Frag) : Sp := fun vs H Q E => ∃ p dx cur lp lf an es x d, vs = [.ref p, x] ∧ H p = some (shO K dx cur lp lf an) ∧ DE H cur es ∧ Dv H x d ∧ (∀ z m v, d = .str z → getA es z = some (v, m) → Q v H) ∧ (hasN (accE es) d = false → BadN E (cA K "UnknownName") "name" x H)
theorem ok_machine (T : Fs K mg) (G : CalM P w K mg base (L2.CX P w) 2 "require_known" ["self", "name"] (spKnown K)) : CalM P w K mg base (L2.CX P w) 3 "machine" ["self", "name"] (spMachine K) := by
  refine calm_of T.machine scMachine (fun vs H Q E h => ?_) (fun _ _ _ _ _ _ us hl => match us, hl with | [_, _], _ => rfl) fun f cdv A outer s H vs Q E hr h => ⟨_, pss_cons (ps_expr (pe_calm T.cl G hr pass (pv 0) (pa_cons (pv 1) pa_nil))) (pss_one (ps_ret (pe_dget (hu_of hr) (pe_fld (pv 0) rfl) (pv 1) (fun _ _ => rfl)))), ?_⟩
  · obtain ⟨p, dx, cur, lp, lf, an, es, x, d, rfl, _⟩ := h
    rfl
  · obtain ⟨p, dx, cur, lp, lf, an, es, x, d, rfl, hp, he, hd, hq, hb⟩ := h
    refine ⟨_, rfl, p, dx, _, rfl, hp, rfl, _, rfl, p, dx, cur, lp, lf, an, es, x, d, rfl, hp, he, hd, fun e => ?_, hb⟩
    cases d with
    | str z =>
      have e : (getA (accE es) z).isSome = true := e
      rw [accE_get, Option.isSome_map] at e
      obtain ⟨⟨v, m⟩, hv⟩ := Option.isSome_iff_exists.mp e
      have hx : x = .str z := by
        cases hd with
        | tp h => cases h; rfl
      subst hx
      have hg : DGet H cur (.str z) (some v) := by
        have := DGet.k (k := Sum.inr z) he.at_
        rw [kvE_get, hv] at this
        exact this
      exact ⟨_, rfl, p, _, dx, _, _, rfl, hp, T.cl, T.n1, rfl, _, rfl, cur, v, rfl, hg, hq z m v rfl hv⟩
    | _ => cases e
end
end T83

set_option Elab.async false
set_option linter.all false
set_option maxRecDepth 100000
set_option maxHeartbeats 2000000
namespace T83
open PySem PySem.Spec PyProof.Rows L2 RZ
theorem rising_pw : ∀ (l : List Str) (p : Str), risingS p l = true → (∀ x ∈ l, p.cps.toList ≤ x.cps.toList) ∧ l.Pairwise fun a b => a.cps.toList ≤ b.cps.toList
  | [], _, _ => ⟨fun x h => (by cases h), .nil⟩
  | y :: l, p, h => by
    unfold risingS at h
    rw [Bool.and_eq_true, Bool.not_eq_true'] at h
    obtain ⟨h1, h2⟩ := h
    rw [ltCps_eq, decide_eq_false_iff_not] at h1
    obtain ⟨h3, h4⟩ := rising_pw l y h2
    have h1 : p.cps.toList ≤ y.cps.toList := h1
    refine ⟨fun x hx => ?_, .cons h3 h4⟩
    rcases List.mem_cons.mp hx with e | e
    · rw [e]
      exact h1
    · exact List.le_trans h1 (h3 x e)
theorem sortedS_pw {l : List Str} (h : sortedS l = true) : l.Pairwise fun a b => a.cps.toList ≤ b.cps.toList := by
  cases l with
  | nil => exact .nil
  | cons x r =>
    obtain ⟨h1, h2⟩ := rising_pw r x h
    exact .cons h1 h2
theorem str_ext {x y : Str} (h : x.cps.toList = y.cps.toList) : x = y := by
  cases x with
  | mk a =>
    cases y with
    | mk b =>
      have : a = b := Array.toList_inj.mp h
      rw [this]
theorem sortedS_one {ys zs : List Str} (p : ys.Perm zs) (h1 : sortedS ys = true) (h2 : sortedS zs = true) : ys = zs :=
  List.Perm.eq_of_pairwise (fun x y _ _ a b => str_ext (List.le_antisymm a b)) (sortedS_pw h1) (sortedS_pw h2) p
theorem prtB_strs : ∀ ys : List Str, prtB (ys.map PyData.str) = false
  | [] => rfl
  | _ :: _ => rfl
theorem strs_tp {H : Hp} : ∀ ys : List Str, TpAll H (ys.map V.str) (ys.map PyData.str)
  | [] => .nil
  | y :: ys => .cons (.str y) (strs_tp ys)
theorem tx_small : ∀ n : Nat, n < 1001 → ((toString (n : Int) : String) : Str).length ≤ 4 := by decide +kernel
theorem tx_log {n : Nat} (h : n ≤ 1000) : (n : Int).natAbs.log2 < 1920 := by
  have h2 : (n : Int).natAbs = n := rfl
  rw [h2]
  have := Nat.log2_lt (n := n) (k := 10)
  by_cases z : n = 0
  · rw [z]
    decide
  · have := (Nat.log2_lt z (k := 10)).mpr (by omega)
    omega
section
variable {P : Program} {w : World} {K : PySem.W.Frag} {mg : Str → Option Value} {base : Heap}
/-! ### names -/
theorem scNames : FnScope ["self"] ["self"] (defScope (inClass (top 100) 14)) := ⟨rfl, rfl, rfl, by decide +kernel, rfl, by decide +kernel, by decide +kernel⟩
def spNames (K : PySem.W.Frag) : Sp := fun vs H Q _ => ∃ p dx cur lp lf an es, vs = [.ref p] ∧ H p = some (shO K dx cur lp lf an) ∧ DE H cur es ∧ es.length < 64 ∧ ∀ H' v ys, Same H H' → ys.Perm (es.map (·.1)) → sortedS ys = true → Tp H' v (.tuple (ys.map PyData.str)) → Q v H'
theorem ok_names (F : Fx K mg) (T : Fs K mg) : ∃ p g fd, PropOf K (aS K) "names" p g ∧ Binds K fd ["self"] [] ∧ FnOk P w K mg base CX0 1 g fd ["self"] (spNames K) := by
  obtain ⟨p, g, fd, M, D⟩ := T.pr
  refine ⟨p, g, fd, M, D.bindsN fun _ _ _ _ _ _ us hl => match us, hl with | [_], _ => rfl, D.ok scNames (fun vs H Q E h => ?_) fun cdv A outer s H vs Q E hr h => ⟨_, PSs.nox (pss_one (ps_ret (pe_callTy call_tuple_of (by rfl) (F.b "tuple" (by decide)) (by decide +kernel) (pa_cons (pe_callB (call_sortedD rfl) (by rfl) (F.b "sorted" (by decide)) (by decide +kernel) (pa_cons (pe_fld (pv 0) rfl) pa_nil)) pa_nil)))), ?_⟩⟩
  · obtain ⟨p, dx, cur, lp, lf, an, es, rfl, _⟩ := h
    rfl
  · obtain ⟨p, dx, cur, lp, lf, an, es, rfl, hp, he, hl, hq⟩ := h
    refine ⟨_, rfl, p, _, dx, _, _, rfl, hp, T.cl, T.n1, rfl, cur, kvE es, es.map (·.1), rfl, .inl he.at_, by simp [kvE, Function.comp_def], by rw [List.length_map]; exact hl, fun ys L hyp hys hL => ⟨L, _, rfl, .inl ⟨SqL.of upd_same, fun M hM => ?_⟩⟩⟩
    exact hq _ _ ys ((same_laid hL).trans (same_laid hM)) hyp hys (.tup upd_same (strs_tp ys) (prtB_strs ys))
/-! ### ==, str -/
theorem scEq : FnScope ["self", "other"] ["self", "other"] (defScope (inClass (top 100) 18)) := ⟨rfl, rfl, rfl, by decide +kernel, rfl, by decide +kernel, by decide +kernel⟩
def spEqS (K : PySem.W.Frag) : Sp := fun vs H Q _ => ∃ p dx cur lp lf an y, vs = [.ref p, y] ∧ H p = some (shO K dx cur lp lf an) ∧ ((∃ i, y = .int i ∧ Q (.bl false) H) ∨ (∃ q dy cu2 l2 f2 a2 r, y = .ref q ∧ H q = some (shO K dy cu2 l2 f2 a2) ∧ DKcmp H (.ref cur) (.ref cu2) r ∧ Q (.bl r) H))
theorem ok_eq (F : Fx K mg) (T : Fs K mg) : CalM P w K mg base CX0 1 "__eq__" ["self", "other"] (spEqS K) := by
  refine calm_of T.eq scEq (fun vs H Q E h => ?_) (fun _ _ _ _ _ _ us hl => match us, hl with | [_, _], _ => rfl) fun f cdv A outer s H vs Q E hr h => ⟨_, PSs.nox (pss_cons (ps_if (pt_not (pt_val (pe_callB call_isi (by rfl) (F.b "isinstance" (by decide)) (by decide +kernel) (pa_cons (pv 1) (pa_cons (pe_glob rfl T.gS (v := .ref (aS K)) rfl) pa_nil))))) (pss_one (ps_ret pe_bl)) pss_nil)
    (pss_one (ps_ret (pe_cmpR (op_eqK hr.units0) (pe_fld (pv 0) rfl) (pe_fld (pv 1) rfl) (nomark _))))), ?_⟩
  · obtain ⟨p, dx, cur, lp, lf, an, y, rfl, _⟩ := h
    rfl
  · obtain ⟨p, dx, cur, lp, lf, an, y, rfl, hp, h⟩ := h
    rcases h with ⟨i, rfl, hq⟩ | ⟨q, dy, cu2, l2, f2, a2, r, rfl, hp2, hc, hq⟩
    · exact ⟨_, rfl, _, _, .type "int", _, false, rfl, .own _, .base (.int i), T.intK, _, rfl, iteT hq⟩
    · refine ⟨_, rfl, _, _, .ref (aS K), _, true, rfl, .own _, .base (.ins hp2 T.cl T.ha T.hn T.htk T.ob), by unfold PySem.W.kitOne; rw [beq_self_eq_true]; rfl, _, rfl, iteF ?_⟩
      exact ⟨_, rfl, p, _, dx, _, _, rfl, hp, T.cl, T.n1, rfl, _, rfl, q, _, dy, _, _, rfl, hp2, T.cl, T.n1, rfl, r, hc, hq⟩
theorem scStr : FnScope ["self"] ["self"] (defScope (inClass (top 100) 19)) := ⟨rfl, rfl, rfl, by decide +kernel, rfl, by decide +kernel, by decide +kernel⟩
/-- 'shelf of a machines, b steps' -/
def txS (a b : Int) : Str := Str.empty ++ "shelf of " ++ (toString a : Str) ++ " machines, " ++ (toString b : Str) ++ " steps"
def spStrS (K : PySem.W.Frag) : Sp := fun vs H Q _ => ∃ p dx cur lp lf an kvs past, vs = [.ref p] ∧ H p = some (shO K dx cur lp lf an) ∧ H cur = some (.dK kvs) ∧ kvs.length ≤ 1000 ∧ H lp = some (.lst past) ∧ past.length ≤ 1000 ∧ Q (.str (txS kvs.length past.length)) H
theorem ok_str (F : Fx K mg) (T : Fs K mg) : CalM P w K mg base CX0 1 "__str__" ["self"] (spStrS K) := by
  refine calm_of T.str scStr (fun vs H Q E h => ?_) (fun _ _ _ _ _ _ us hl => match us, hl with | [_], _ => rfl) fun f cdv A outer s H vs Q E hr h => ⟨_, PSs.nox (pss_one (ps_ret (pe_joined (.cons pe_str (.cons (pe_fmt (pe_callB call_lenD (by rfl) (F.b "len" (by decide)) boot_len (pa_cons (pe_fld (pv 0) rfl) pa_nil))) (.cons pe_str (.cons (pe_fmt (pe_callB call_len (by rfl) (F.b "len" (by decide)) boot_len (pa_cons (pe_fld (pv 0) rfl) pa_nil))) (.cons pe_str .nil)))))))), ?_⟩
  · obtain ⟨p, dx, cur, lp, lf, an, kvs, past, rfl, _⟩ := h
    rfl
  · obtain ⟨p, dx, cur, lp, lf, an, kvs, past, rfl, hp, hc, hl, hlp, hpl, hq⟩ := h
    have t1 := tx_small kvs.length (by omega)
    have t2 := tx_small past.length (by omega)
    have c0 : (Str.empty ++ ("shelf of " : Str)).length = 9 := by decide +kernel
    have c1 : (" machines, " : Str).length = 11 := by decide +kernel
    have c2 : (" steps" : Str).length = 6 := by decide +kernel
    refine ⟨_, rfl, by rw [sizeLine_eq, c0]; decide, _, rfl, p, _, dx, _, _, rfl, hp, T.cl, T.n1, rfl, cur, kvs, rfl, hc, .inr ⟨_, rfl, tx_log hl, _, rfl, ?_, ?_⟩⟩
    · rw [strLen_append, c0, sizeLine_eq]
      omega
    refine ⟨_, rfl, ?_, ?_⟩
    · rw [strLen_append, strLen_append, c0, c1, sizeLine_eq]
      omega
    refine ⟨_, rfl, p, _, dx, _, _, rfl, hp, T.cl, T.n2, rfl, _, past.length, rfl, .inl ⟨_, .inl (.inl hlp), rfl⟩, .inr ⟨_, rfl, tx_log hpl, _, rfl, ?_, ?_⟩⟩
    · rw [strLen_append, strLen_append, strLen_append, c0, c1, sizeLine_eq]
      omega
    refine ⟨_, rfl, ?_, ?_⟩
    · rw [strLen_append, strLen_append, strLen_append, strLen_append, c0, c1, c2, sizeLine_eq]
      omega
    exact hq
end
end T83

set_option Elab.async false
set_option linter.all false
set_option maxRecDepth 100000
set_option maxHeartbeats 2000000
namespace T83
open PySem PySem.Spec PyProof.Rows L2 RZ
section
variable {P : Program} {w : World} {K : PySem.W.Frag} {mg : Str → Option Value} {base : Heap}
/-! ### undo, redo -/
theorem scUndo : FnScope ["self", "many", "turn"] ["self", "many"] (defScope (inClass (top 100) 7)) := ⟨rfl, rfl, rfl, by decide +kernel, rfl, by decide +kernel, by decide +kernel⟩
/-- not so many steps are there; no number of steps -/
def BadSteps (K : PySem.W.Frag) (y : V) (d : PyData) (n : Int) (H : Hp) (E : XK) : Prop := (∀ i, d = .int i → 0 ≤ i → n < i → BadN E (cA K "NothingToUndo") "wanted" y H) ∧ ((∀ i, d = .int i → i < 0) → BadN E (cA K "InvalidNumber") "value" y H)
def spUndo (K : PySem.W.Frag) : Sp := fun vs H Q E => ∃ p dx lp lf an past cur fut y d, vs = [.ref p, y] ∧ Shf K H p dx lp lf an past cur fut ∧ past.length ≤ 1000 ∧ fut.length ≤ 1000 ∧ Dv H y d ∧
  (∀ past' cur' back, d = .int ((back.length : Nat) : Int) → past ++ [cur] = past' ++ [cur'] ++ back → ∀ H', Kp [p, lp, lf] H H' → Shf K H' p dx lp lf an past' cur' (fut ++ back.reverse) → Q (.int past'.length) H') ∧ BadSteps K y d past.length H E
theorem ok_undo (F : Fx K mg) (E0 : Fe P K mg) (T : Fs K mg) (G : Cal P w K mg base (L2.CX P w) 2 "require_steps" ["many", "there"] (spRSteps K)) : CalM P w K mg base (L2.CX P w) 3 "undo" ["self", "many"] (spUndo K) := by
  refine calm_of T.undo scUndo (fun vs H Q E h => ?_) (fun _ _ _ _ _ _ us hl => match us, hl with | [_, _], _ => rfl) fun f cdv A outer s H vs Q E hr h => ⟨_, pss_cons (ps_expr (pe_cal G hr (by rfl) pass (pa_cons (pv 1) (pa_cons (pe_callB call_len (by rfl) (F.b "len" (by decide)) boot_len (pa_cons (pe_fld (pv 0) rfl) pa_nil)) pa_nil))))
    (pss_cons (ps_for (passes_of rfl) rfl (pi_range1 rfl (F.b "range" (by decide)) (pa_cons (pv 1) pa_nil)) (pg_name (i := 2) scUndo.nd rfl (Or.inl rfl))
      (pss_cons (ps_expr (pe_bm PySem.F.plainAttrs_list PySem.F.slot_list_append PySem.F.type_list_append mt_append (pe_fld (pv 0) rfl) (pa_cons (pe_fld (pv 0) rfl) pa_nil)))
      (pss_one (ps_fld (pv 0) (pe_bm0 PySem.F.plainAttrs_list PySem.F.slot_list_pop PySem.F.type_list_pop mt_pop (pe_fld (pv 0) rfl)) rfl))))
    (pss_one (ps_ret (pe_callB call_len (by rfl) (F.b "len" (by decide)) boot_len (pa_cons (pe_fld (pv 0) rfl) pa_nil))))), ?_⟩
  · obtain ⟨p, dx, lp, lf, an, past, cur, fut, y, d, rfl, _⟩ := h
    rfl
  · obtain ⟨p, dx, lp, lf, an, past, cur, fut, y, d, rfl, sh, hpl, hfl, hd, hq, hb1, hb2⟩ := h
    have el : ((past.map V.ref).length : Int) = (past.length : Int) := by rw [List.length_map]
    refine ⟨_, rfl, _, rfl, p, _, dx, _, _, rfl, sh.at_, T.cl, T.n2, rfl, _, _, rfl, .inl ⟨_, .inl (.inl sh.lp_), rfl⟩, y, d, _, rfl, hd, fun i hi h0 h1 => ?_, fun i hi h0 h1 => hb1 i hi h0 (by omega), hb2⟩
    subst hi
    obtain ⟨n, rfl⟩ := Int.eq_ofNat_of_zero_le h0
    have hy : y = .int (n : Int) := by
      cases hd with
      | tp h => cases h; rfl
    subst hy
    have hn : n ≤ past.length := by omega
    refine ⟨_, rfl, (n : Int), rfl, by omega, by omega, for_range (lo := 0) (n := n) (fun t σ H' => (∃ u2, σ = [some (.ref p), some (.int (n : Int)), u2]) ∧ Kp [p, lp, lf] H H' ∧ ∃ past' cur' back, past ++ [cur] = past' ++ [cur'] ++ back ∧ back.length = t ∧ Shf K H' p dx lp lf an past' cur' (fut ++ back.reverse)) ⟨⟨none, rfl⟩, Kp.refl _ _, past, cur, [], by simp, rfl, by simpa using sh⟩ (fun t σ H1 ht hP => ?_) (fun σ H1 hP => ?_)⟩
    · obtain ⟨⟨u2, rfl⟩, kp, past', cur', back, hE, hbl, sh1⟩ := hP
      have hlen := congrArg List.length hE
      simp only [List.length_append, List.length_cons, List.length_nil] at hlen
      rcases List.eq_nil_or_concat past' with e | ⟨q, c, e⟩
      · rw [e] at hlen
        simp at hlen
        omega
      rw [List.concat_eq_append] at e
      subst e
      have hplf : p ≠ lf := ne_of sh1.at_ sh1.lf_ (by intro z; cases z)
      have hplp : p ≠ lp := ne_of sh1.at_ sh1.lp_ (by intro z; cases z)
      have half : an ≠ lf := ne_of sh1.an_ sh1.lf_ (by intro z; cases z)
      have halp : an ≠ lp := ne_of sh1.an_ sh1.lp_ (by intro z; cases z)
      have hap : an ≠ p := ne_of sh1.an_ sh1.at_ (by intro z; cases z)
      refine ⟨_, rfl, p, _, dx, _, _, rfl, sh1.at_, T.cl, T.n3, rfl, .inl ⟨rfl, _, .inl (.inl sh1.lf_)⟩, ?_⟩
      refine ⟨_, rfl, p, _, dx, _, _, rfl, sh1.at_, T.cl, T.n1, rfl, lf, _, _, rfl, rfl, sh1.lf_, ?_, ?_⟩
      · rw [List.length_map, List.length_append, List.length_reverse, sizeLine_eq]
        omega
      generalize hH2 : upd H1 lf (.lst ((fut ++ back.reverse).map V.ref ++ [V.ref cur'])) = H2
      have p2 : H2 p = some (shO K dx cur' lp lf an) := by rw [← hH2, upd_ne hplf]; exact sh1.at_
      have l2 : H2 lp = some (.lst ((q ++ [c]).map V.ref)) := by rw [← hH2, upd_ne sh1.ne]; exact sh1.lp_
      have f2 : H2 lf = some (.lst ((fut ++ (cur' :: back).reverse).map V.ref)) := by
        rw [← hH2, upd_same, List.reverse_cons, ← List.append_assoc]
        simp only [List.map_append]
        rfl
      have a2 : H2 an = some (.dK []) := by rw [← hH2, upd_ne half]; exact sh1.an_
      have hlast : ((q ++ [c]).map V.ref)[((q ++ [c]).map V.ref).length - 1]? = some (.ref c) := by
        rw [List.map_append]
        simp
      refine ⟨_, rfl, p, _, dx, _, _, rfl, p2, T.cl, T.n2, rfl, .inl ⟨rfl, _, .inl (.inl l2)⟩, lp, _, _, rfl, rfl, l2, hlast, ?_⟩
      have p3 : (upd H2 lp (.lst ((q ++ [c]).map V.ref).dropLast)) p = some (shO K dx cur' lp lf an) := by rw [upd_ne hplp]; exact p2
      refine ⟨_, rfl, p, _, dx, _, rfl, p3, T.cl, T.n1, (show (4 : Nat) < 1000 by decide), ?_⟩
      refine ⟨⟨_, rfl⟩, ?_, q, c, cur' :: back, by rw [hE]; simp, by rw [List.length_cons, hbl], ?_, ?_, ?_, ?_, sh1.ne⟩
      · refine Kp.put (Kp.put ?_ (.inl (by simp))) (.inl (by simp))
        rw [← hH2]
        exact kp.put (.inl (by simp))
      · rw [upd_same]
        rfl
      · rw [upd_ne hplp.symm, upd_same, List.map_append]
        simp
      · rw [upd_ne hplf.symm, upd_ne sh1.ne.symm]
        exact f2
      · rw [upd_ne hap, upd_ne halp]
        exact a2
    · obtain ⟨⟨u2, rfl⟩, kp, past', cur', back, hE, hbl, sh1⟩ := hP
      have := hq past' cur' back (by rw [hbl]) hE H1 kp sh1
      refine ⟨_, rfl, p, _, dx, _, _, rfl, sh1.at_, T.cl, T.n2, rfl, _, _, rfl, .inl ⟨_, .inl (.inl sh1.lp_), rfl⟩, ?_⟩
      rw [List.length_map]
      exact this
theorem scRedo : FnScope ["self", "many", "turn"] ["self", "many"] (defScope (inClass (top 100) 8)) := ⟨rfl, rfl, rfl, by decide +kernel, rfl, by decide +kernel, by decide +kernel⟩
def spRedo (K : PySem.W.Frag) : Sp := fun vs H Q E => ∃ p dx lp lf an past cur fut y d, vs = [.ref p, y] ∧ Shf K H p dx lp lf an past cur fut ∧ past.length ≤ 1000 ∧ fut.length ≤ 1000 ∧ Dv H y d ∧
  (∀ past' cur' fut' back, d = .int ((back.length : Nat) : Int) → fut = fut' ++ back → past' ++ [cur'] = past ++ [cur] ++ back.reverse → ∀ H', Kp [p, lp, lf] H H' → Shf K H' p dx lp lf an past' cur' fut' → Q (.int past'.length) H') ∧ BadSteps K y d fut.length H E
theorem ok_redo (F : Fx K mg) (E0 : Fe P K mg) (T : Fs K mg) (G : Cal P w K mg base (L2.CX P w) 2 "require_steps" ["many", "there"] (spRSteps K)) : CalM P w K mg base (L2.CX P w) 3 "redo" ["self", "many"] (spRedo K) := by
  refine calm_of T.redo scRedo (fun vs H Q E h => ?_) (fun _ _ _ _ _ _ us hl => match us, hl with | [_, _], _ => rfl) fun f cdv A outer s H vs Q E hr h => ⟨_, pss_cons (ps_expr (pe_cal G hr (by rfl) pass (pa_cons (pv 1) (pa_cons (pe_callB call_len (by rfl) (F.b "len" (by decide)) boot_len (pa_cons (pe_fld (pv 0) rfl) pa_nil)) pa_nil))))
    (pss_cons (ps_for (passes_of rfl) rfl (pi_range1 rfl (F.b "range" (by decide)) (pa_cons (pv 1) pa_nil)) (pg_name (i := 2) scRedo.nd rfl (Or.inl rfl))
      (pss_cons (ps_expr (pe_bm PySem.F.plainAttrs_list PySem.F.slot_list_append PySem.F.type_list_append mt_append (pe_fld (pv 0) rfl) (pa_cons (pe_fld (pv 0) rfl) pa_nil)))
      (pss_one (ps_fld (pv 0) (pe_bm0 PySem.F.plainAttrs_list PySem.F.slot_list_pop PySem.F.type_list_pop mt_pop (pe_fld (pv 0) rfl)) rfl))))
    (pss_one (ps_ret (pe_callB call_len (by rfl) (F.b "len" (by decide)) boot_len (pa_cons (pe_fld (pv 0) rfl) pa_nil))))), ?_⟩
  · obtain ⟨p, dx, lp, lf, an, past, cur, fut, y, d, rfl, _⟩ := h
    rfl
  · obtain ⟨p, dx, lp, lf, an, past, cur, fut, y, d, rfl, sh, hpl, hfl, hd, hq, hb1, hb2⟩ := h
    have el : ((fut.map V.ref).length : Int) = (fut.length : Int) := by rw [List.length_map]
    refine ⟨_, rfl, _, rfl, p, _, dx, _, _, rfl, sh.at_, T.cl, T.n3, rfl, _, _, rfl, .inl ⟨_, .inl (.inl sh.lf_), rfl⟩, y, d, _, rfl, hd, fun i hi h0 h1 => ?_, fun i hi h0 h1 => hb1 i hi h0 (by omega), hb2⟩
    subst hi
    obtain ⟨n, rfl⟩ := Int.eq_ofNat_of_zero_le h0
    have hy : y = .int (n : Int) := by
      cases hd with
      | tp h => cases h; rfl
    subst hy
    have hn : n ≤ fut.length := by omega
    refine ⟨_, rfl, (n : Int), rfl, by omega, by omega, for_range (lo := 0) (n := n) (fun t σ H' => (∃ u2, σ = [some (.ref p), some (.int (n : Int)), u2]) ∧ Kp [p, lp, lf] H H' ∧ ∃ past' cur' fut' back, fut = fut' ++ back ∧ past' ++ [cur'] = past ++ [cur] ++ back.reverse ∧ back.length = t ∧ Shf K H' p dx lp lf an past' cur' fut') ⟨⟨none, rfl⟩, Kp.refl _ _, past, cur, fut, [], by simp, by simp, rfl, sh⟩ (fun t σ H1 ht hP => ?_) (fun σ H1 hP => ?_)⟩
    · obtain ⟨⟨u2, rfl⟩, kp, past', cur', fut', back, hF, hE, hbl, sh1⟩ := hP
      have hlen := congrArg List.length hE
      simp only [List.length_append, List.length_cons, List.length_nil, List.length_reverse] at hlen
      have hlenF := congrArg List.length hF
      rw [List.length_append] at hlenF
      rcases List.eq_nil_or_concat fut' with e | ⟨q, c, e⟩
      · rw [e] at hlenF
        simp at hlenF
        omega
      rw [List.concat_eq_append] at e
      subst e
      have hplf : p ≠ lf := ne_of sh1.at_ sh1.lf_ (by intro z; cases z)
      have hplp : p ≠ lp := ne_of sh1.at_ sh1.lp_ (by intro z; cases z)
      have half : an ≠ lf := ne_of sh1.an_ sh1.lf_ (by intro z; cases z)
      have halp : an ≠ lp := ne_of sh1.an_ sh1.lp_ (by intro z; cases z)
      have hap : an ≠ p := ne_of sh1.an_ sh1.at_ (by intro z; cases z)
      refine ⟨_, rfl, p, _, dx, _, _, rfl, sh1.at_, T.cl, T.n2, rfl, .inl ⟨rfl, _, .inl (.inl sh1.lp_)⟩, ?_⟩
      refine ⟨_, rfl, p, _, dx, _, _, rfl, sh1.at_, T.cl, T.n1, rfl, lp, _, _, rfl, rfl, sh1.lp_, ?_, ?_⟩
      · rw [List.length_map, sizeLine_eq]
        omega
      generalize hH2 : upd H1 lp (.lst (past'.map V.ref ++ [V.ref cur'])) = H2
      have p2 : H2 p = some (shO K dx cur' lp lf an) := by rw [← hH2, upd_ne hplp]; exact sh1.at_
      have l2 : H2 lp = some (.lst ((past' ++ [cur']).map V.ref)) := by
        rw [← hH2, upd_same, List.map_append]
        rfl
      have f2 : H2 lf = some (.lst ((q ++ [c]).map V.ref)) := by rw [← hH2, upd_ne sh1.ne.symm]; exact sh1.lf_
      have a2 : H2 an = some (.dK []) := by rw [← hH2, upd_ne halp]; exact sh1.an_
      have hlast : ((q ++ [c]).map V.ref)[((q ++ [c]).map V.ref).length - 1]? = some (.ref c) := by
        rw [List.map_append]
        simp
      refine ⟨_, rfl, p, _, dx, _, _, rfl, p2, T.cl, T.n3, rfl, .inl ⟨rfl, _, .inl (.inl f2)⟩, lf, _, _, rfl, rfl, f2, hlast, ?_⟩
      have p3 : (upd H2 lf (.lst ((q ++ [c]).map V.ref).dropLast)) p = some (shO K dx cur' lp lf an) := by rw [upd_ne hplf]; exact p2
      refine ⟨_, rfl, p, _, dx, _, rfl, p3, T.cl, T.n1, (show (4 : Nat) < 1000 by decide), ?_⟩
      refine ⟨⟨_, rfl⟩, ?_, past' ++ [cur'], c, q, c :: back, by rw [hF]; simp, by rw [hE]; simp, by rw [List.length_cons, hbl], ?_, ?_, ?_, ?_, sh1.ne⟩
      · refine Kp.put (Kp.put ?_ (.inl (by simp))) (.inl (by simp))
        rw [← hH2]
        exact kp.put (.inl (by simp))
      · rw [upd_same]
        rfl
      · rw [upd_ne hplp.symm, upd_ne sh1.ne]
        exact l2
      · rw [upd_ne hplf.symm, upd_same, List.map_append]
        simp
      · rw [upd_ne hap, upd_ne half]
        exact a2
    · obtain ⟨⟨u2, rfl⟩, kp, past', cur', fut', back, hF, hE, hbl, sh1⟩ := hP
      have := hq past' cur' fut' back (by rw [hbl]) hF hE H1 kp sh1
      refine ⟨_, rfl, p, _, dx, _, _, rfl, sh1.at_, T.cl, T.n2, rfl, _, _, rfl, .inl ⟨_, .inl (.inl sh1.lp_), rfl⟩, ?_⟩
      rw [List.length_map]
      exact this
end
end T83

set_option Elab.async false
set_option linter.all false
set_option maxRecDepth 100000
set_option maxHeartbeats 2000000
namespace T83
open PySem PySem.Spec PyProof.Rows L2 RZ
def gFld (K : PySem.W.Frag) (ta : TE) (f : Str) : TG := fun y σ H Q => ta σ H fun x H2 => ∃ a C dx fs, x = .ref a ∧ H2 a = some (.ins C dx fs) ∧ Cls K C ∧ NoAttr K C f ∧ fs.length < 1000 ∧ Q σ (upd H2 a (.ins C dx (putF f y fs)))
theorem pg_fld {X : Cx} {o : Expr} {f : Str} {pos : Pos} {ta : TE} (ha : PE X o ta)
    (hs : ∀ v, assign (.Attribute o f pos) X.env v = (do
      let ov ← holding [v] (eval o X.env)
      standAt pos.atName
      holding [v, ov] (setAttr ov f v)
      release [v, ov] []) := by intro _; rfl) : PG X (.Attribute o f pos) (gFld X.K ta f) := by
  refine ⟨fun pins s σ H y u Q I ry h => ?_⟩
  rw [hs]
  refine wpAny_bind (wpAny_holding (thn (ha.run pins s σ H _ I h) fun ov s2 ⟨x, H2, I2, rx, a, C, dx, fs, ex, ea, c, n, l, q2⟩ => ?_))
  subst ex
  obtain rfl : ov = Value.ref a := rx
  refine wpAny_bind (wpAny_standAt (wpAny_bind (wpAny_holding (setattr_ok I2 ea c n l ry fun s3 I3 => ?_))))
  exact wpAny_release ⟨σ, _, I3, q2⟩
section
variable {P : Program} {w : World} {K : PySem.W.Frag} {mg : Str → Option Value} {base : Heap}
/-! ### twin -/
theorem scTwin : FnScope ["self", "found"] ["self"] (defScope (inClass (top 100) 15)) := ⟨rfl, rfl, rfl, by decide +kernel, rfl, by decide +kernel, by decide +kernel⟩
def spTwin (K : PySem.W.Frag) : Sp := fun vs H Q _ => ∃ p dx lp lf an past cur fut kvs, vs = [.ref p] ∧ Shf K H p dx lp lf an past cur fut ∧ H cur = some (.dK kvs) ∧ ∀ H' p' dx' lp' lf' an' cur', Same H H' → H p' = none → H lp' = none → H lf' = none → H cur' = none → H' cur' = some (.dK kvs) → Shf K H' p' dx' lp' lf' an' past cur' fut → Q (.ref p') H'
theorem ok_twin (F : Fx K mg) (T : Fs K mg) : CalM P w K mg base CX0 3 "twin" ["self"] (spTwin K) := by
  obtain ⟨fi, fdi, Mi, bi, Fi⟩ := ok_init (P := P) (w := w) (base := base) T
  refine calm_of T.twin scTwin (fun vs H Q E h => ?_) (fun _ _ _ _ _ _ us hl => match us, hl with | [_], _ => rfl) fun f cdv A outer s H vs Q E hr h => ⟨_, PSs.nox (pss_cons (ps_set (i := 1) scTwin.nd rfl (Or.inl rfl) (pe_make0 Mi Fi hr (by rfl) T.gS bi .nil pass0))
    (pss_cons (ps_fld (pv 1) (pe_callTy call_dictD (by rfl) (F.b "dict" (by decide)) (by decide +kernel) (pa_cons (pe_fld (pv 0) rfl) pa_nil)) rfl)
    (pss_cons (ps_asg (pe_tup (pa_cons (pe_callTy call_list_of (by rfl) (F.b "list" (by decide)) (by decide +kernel) (pa_cons (pe_fld (pv 0) rfl) pa_nil)) (pa_cons (pe_callTy call_list_of (by rfl) (F.b "list" (by decide)) (by decide +kernel) (pa_cons (pe_fld (pv 0) rfl) pa_nil)) pa_nil))) (pg_tup (n := 2) rfl (pgs_cons (pg_fld (pv 1)) (pgs_cons (pg_fld (pv 1)) pgs_nil))))
    (pss_cons (ps_fld (pv 1) (pe_callTy call_dictD (by rfl) (F.b "dict" (by decide)) (by decide +kernel) (pa_cons (pe_fld (pv 0) rfl) pa_nil)) rfl)
    (pss_one (ps_ret (pv 1))))))), ?_⟩
  · obtain ⟨p, dx, lp, lf, an, past, cur, fut, kvs, rfl, _⟩ := h
    rfl
  · obtain ⟨p, dx, lp, lf, an, past, cur, fut, kvs, rfl, sh, hc, hq⟩ := h
    refine fun p' dx' np ndx nex => ⟨p', dx', rfl, upd_same, fun H1 c1 lp1 lf1 an1 kp nc nlp nlf nan hc1 sh1 => ⟨rfl, ?_⟩⟩
    have s0 : Same H (upd (upd H dx' (.own p')) p' (.ins (aS K) dx' [])) := fun b o e => by
      rw [upd_ne (ne_of_none e np), upd_ne (ne_of_none e ndx)]
      exact e
    have s1 : Same H H1 := fun b o e => kp b o (s0 b o e) (by simpa using ne_of_none e np)
    -- the machines
    refine ⟨_, rfl, p, _, dx, _, _, rfl, s1 _ _ sh.at_, T.cl, T.n1, rfl, cur, kvs, rfl, .inl (s1 _ _ hc), fun cu hcu => ?_⟩
    have p1 := upd_old (u := .dK kvs) hcu sh1.at_
    refine ⟨_, rfl, p', _, dx', _, rfl, p1, T.cl, T.n1, (show (4 : Nat) < 1000 by decide), ?_⟩
    generalize hH2 : upd (upd H1 cu (.dK kvs)) p' (.ins (aS K) dx' (putF "own_machines" (.ref cu) [("own_machines", .ref c1), ("own_past", .ref lp1), ("own_future", .ref lf1), ("own_answers", .ref an1)])) = H2
    have p2 : H2 p' = some (shO K dx' cu lp1 lf1 an1) := by rw [← hH2, upd_same]; rfl
    have hcp : cu ≠ p' := (ne_of_none sh1.at_ hcu).symm
    have c2 : H2 cu = some (.dK kvs) := by rw [← hH2, upd_ne hcp, upd_same]
    have s2 : Same H H2 := fun b o e => by
      rw [← hH2, upd_ne (ne_of_none e np)]
      exact upd_old hcu (s1 b o e)
    -- the lists
    refine ⟨_, rfl, p, _, dx, _, _, rfl, s2 _ _ sh.at_, T.cl, T.n2, rfl, lp, _, rfl, .inl (.inl (.inl (s2 _ _ sh.lp_))), fun lp' hlp => ?_⟩
    have s3 : Same H2 (upd H2 lp' (.lst (past.map V.ref))) := same_laid hlp
    refine ⟨_, rfl, p, _, dx, _, _, rfl, s3 _ _ (s2 _ _ sh.at_), T.cl, T.n3, rfl, lf, _, rfl, .inl (.inl (.inl (s3 _ _ (s2 _ _ sh.lf_)))), fun lf' hlf => ⟨two_le2, fun t ht => ?_⟩⟩
    have s4 : Same (upd H2 lp' (.lst (past.map V.ref))) (upd (upd H2 lp' (.lst (past.map V.ref))) lf' (.lst (fut.map V.ref))) := same_laid hlf
    have s5 : Same (upd (upd H2 lp' (.lst (past.map V.ref))) lf' (.lst (fut.map V.ref))) (upd (upd (upd H2 lp' (.lst (past.map V.ref))) lf' (.lst (fut.map V.ref))) t (.tup [.ref lp', .ref lf'])) := same_laid ht
    have hlf5 : (upd (upd (upd H2 lp' (.lst (past.map V.ref))) lf' (.lst (fut.map V.ref))) t (.tup [.ref lp', .ref lf'])) lf' = some (.lst (fut.map V.ref)) := s5 _ _ upd_same
    have hlp5 : (upd (upd (upd H2 lp' (.lst (past.map V.ref))) lf' (.lst (fut.map V.ref))) t (.tup [.ref lp', .ref lf'])) lp' = some (.lst (past.map V.ref)) := s5 _ _ (s4 _ _ upd_same)
    have ht5 : (upd (upd (upd H2 lp' (.lst (past.map V.ref))) lf' (.lst (fut.map V.ref))) t (.tup [.ref lp', .ref lf'])) t = some (.tup [.ref lp', .ref lf']) := upd_same
    have s25 := s3.trans (s4.trans s5)
    have hlpne : lp' ≠ lf' := ne_of_none (upd_same (H := H2) (a := lp') (o := .lst (past.map V.ref))) hlf
    have hlpH : H lp' = none := s2.free hlp
    have hlfH : H lf' = none := (s2.trans s3).free hlf
    generalize hH5 : upd (upd (upd H2 lp' (.lst (past.map V.ref))) lf' (.lst (fut.map V.ref))) t (.tup [.ref lp', .ref lf']) = H5 at s25 hlf5 hlp5 ht5
    have p5 := s25 _ _ p2
    refine ⟨t, _, rfl, SqT.of ht5, rfl, _, _, rfl, _, rfl, p', _, dx', _, rfl, p5, T.cl, T.n2, (show (4 : Nat) < 1000 by decide), ?_⟩
    refine ⟨_, _, rfl, _, rfl, p', _, dx', _, rfl, upd_same, T.cl, T.n3, (show (4 : Nat) < 1000 by decide), rfl, ?_⟩
    generalize hH7 : upd (upd H5 p' (.ins (aS K) dx' (putF "own_past" (.ref lp') [("own_machines", .ref cu), ("own_past", .ref lp1), ("own_future", .ref lf1), ("own_answers", .ref an1)]))) p' (.ins (aS K) dx' (putF "own_future" (.ref lf') (putF "own_past" (.ref lp') [("own_machines", .ref cu), ("own_past", .ref lp1), ("own_future", .ref lf1), ("own_answers", .ref an1)]))) = H7
    have p7 : H7 p' = some (shO K dx' cu lp' lf' an1) := by rw [← hH7, upd_same]; rfl
    have o7 : ∀ b o, b ≠ p' → H5 b = some o → H7 b = some o := fun b o n e => by rw [← hH7, upd_ne n, upd_ne n]; exact e
    have s7 : Same H H7 := fun b o e => o7 b o (ne_of_none e np) (s25 _ _ (s2 _ _ e))
    refine ⟨_, rfl, p, _, dx, _, _, rfl, s7 _ _ sh.at_, T.cl, T.n4, rfl, an, [], rfl, .inl (s7 _ _ sh.an_), fun an' han => ?_⟩
    have p8 := upd_old (u := .dK []) han p7
    refine ⟨_, rfl, p', _, dx', _, rfl, p8, T.cl, T.n4, (show (4 : Nat) < 1000 by decide), _, rfl, ?_⟩
    have hlpp : lp' ≠ p' := (ne_of_none p2 hlp).symm
    have hlfp : lf' ≠ p' := (ne_of_none (s3 _ _ p2) hlf).symm
    have hanp : an' ≠ p' := (ne_of_none p7 han).symm
    have o9 : ∀ b o, b ≠ p' → H7 b = some o → (upd (upd H7 an' (.dK [])) p' (.ins (aS K) dx' (putF "own_answers" (.ref an') [("own_machines", .ref cu), ("own_past", .ref lp'), ("own_future", .ref lf'), ("own_answers", .ref an1)]))) b = some o := fun b o n e => by
      rw [upd_ne n]
      exact upd_old han e
    refine hq _ p' dx' lp' lf' an' cu (fun b o e => o9 b o (ne_of_none e np) (s7 _ _ e)) np hlpH hlfH (s1.free hcu) (o9 _ _ hcp (o7 _ _ hcp (s25 _ _ c2))) ⟨?_, o9 _ _ hlpp (o7 _ _ hlpp hlp5), o9 _ _ hlfp (o7 _ _ hlfp hlf5), ?_, hlpne⟩
    · rw [upd_same]
      rfl
    · rw [upd_ne hanp, upd_same]
end
end T83

set_option Elab.async false
set_option linter.all false
set_option maxRecDepth 100000
set_option maxHeartbeats 2000000
namespace T83
open PySem PySem.Spec PyProof.Rows L2 RZ
def srtC (cs : List Chc) : List Chc := cs.mergeSort (PySem.W.dataLe false dC)
theorem srt_map (ks : List KC) : (srt ks).map (·.2) = srtC (ks.map (·.2)) := by
  unfold srt srtC
  exact List.map_mergeSort (fun a _ b _ => rfl)
theorem srtC_perm (cs : List Chc) : (srtC cs).Perm cs := List.mergeSort_perm _ _
/-- the machine with these choices at j -/
def setR (m : Mach) (j : Nat) (cs : List Chc) : Mach := (m.1, m.2.set j (srtC cs))
theorem withR_eq (m : Mach) (j : Nat) (ks : List KC) : withR m j ks = setR m j (ks.map (·.2)) := by
  unfold withR setR
  rw [srt_map]
/-- the way out by a class without fields -/
def BadC (E : XK) (C : Addr) (H : Hp) : Prop := ∀ H', Same H H' → E (.ref C) none H'
/-- a step has been done: the machines are es -/
def Stepd (K : PySem.W.Frag) (H : Hp) (p dx lp an : Addr) (past : List Addr) (cur : Addr) (es : List Ent) (Q : VK) : Prop :=
  ∀ H' lf' cu an', H lf' = none → (an' = an ∨ H an' = none) → H cu = none → Kp [p, lp] H H' → DE H' cu es → Shf K H' p dx lp lf' an' (past ++ [cur]) cu [] → Q .non H'
section
variable {P : Program} {w : World} {K : PySem.W.Frag} {mg : Str → Option Value} {base : Heap}
/-- {**self.own_machines, name: v}, handed to step: from the heap H1, v at b -/
theorem star_step {H : Hp} {p dx lp lf an cur : Addr} {past fut : List Addr} {es : List Ent} {z : Str} {m : Mach} {Q : VK} (sh : Shf K H p dx lp lf an past cur fut) (de : DE H cur es) (hpl : past.length ≤ 1000) (hel : es.length ≤ 1000) (hq : ∀ v, (∃ b, v = V.ref b) → Stepd K H p dx lp an past cur (putA es z (v, m)) Q)
    {D S : Addr} {H3 : Hp} {b : Addr} (hD : H D = none) (hS : H S = none) (hSD : S ≠ D) (s3 : Same H H3) (hD3 : H3 D = some (.dK (kvE es))) (hS3 : H3 S = some (.dK [])) (hb : Tp H3 (.ref b) (dM m)) :
    spStep K [.ref p, .ref D] (upd (upd H3 S (.dK [(Sum.inr z, .ref b)])) D (.dK (putK (kvE es) (Sum.inr z) (.ref b)))) Q L2.E0 := by
  have s4 : Same H (upd (upd H3 S (.dK [(Sum.inr z, .ref b)])) D (.dK (putK (kvE es) (Sum.inr z) (.ref b)))) := fun c o e => by
    rw [upd_ne (ne_of_none e hD), upd_ne (ne_of_none e hS)]
    exact s3 c o e
  have t4 : TupK H3 (upd (upd H3 S (.dK [(Sum.inr z, .ref b)])) D (.dK (putK (kvE es) (Sum.inr z) (.ref b)))) := (tk_upd hS3 id).trans (tk_upd (u := .dK (kvE es)) (by rw [upd_ne (Ne.symm hSD)]; exact hD3) id)
  have d4 : DE (upd (upd H3 S (.dK [(Sum.inr z, .ref b)])) D (.dK (putK (kvE es) (Sum.inr z) (.ref b)))) D (putA es z (.ref b, m)) := by
    refine ⟨?_, ((de.ok.keep s3.tups).put hb).keep t4⟩
    rw [upd_same, kvE_put]
  refine ⟨p, dx, lp, lf, an, past, cur, fut, D, rfl, sh.same s4, hpl, fun H' lf' hlf kp sh' => ?_⟩
  have sm := (sh.same s4).mu
  have mu2 : Mu (upd (upd H3 S (.dK [(Sum.inr z, .ref b)])) D (.dK (putK (kvE es) (Sum.inr z) (.ref b)))) [p, lp] := fun c hc => sm c (by simp at hc ⊢; rcases hc with h | h <;> simp [h])
  exact hq (.ref b) ⟨b, rfl⟩ H' lf' D an (s4.free hlf) (.inl rfl) hD (fun c o e n => kp c o (s4 c o e) n) (d4.kp kp mu2) sh'
/-! ### put -/
theorem scPut : FnScope ["self", "name", "machine"] ["self", "name", "machine"] (defScope (inClass (top 100) 2)) := ⟨rfl, rfl, rfl, by decide +kernel, rfl, by decide +kernel, by decide +kernel⟩
def spPut (K : PySem.W.Frag) : Sp := fun vs H Q E => ∃ p dx lp lf an past cur fut es x d y om, vs = [.ref p, x, y] ∧ Shf K H p dx lp lf an past cur fut ∧ DE H cur es ∧ past.length ≤ 1000 ∧ es.length ≤ 1000 ∧ Dv H x d ∧ (∀ z, d = .str z → z.length ≤ 1000) ∧ MX H y om ∧
  (isNm d = false → BadC E (cA K "InvalidName") H) ∧ (isNm d = true → okX om = false → BadC E (cA K "InvalidMachine") H) ∧
  (∀ z m, d = .str z → om = some m → isNm d = true → okM m = true → (getA es z = none ∧ es.length = 12 → BadN E (cA K "TooMany") "number" (.int 12) H) ∧ (¬ (getA es z = none ∧ es.length = 12) → ∀ v, (∃ b, v = V.ref b) → Stepd K H p dx lp an past cur (putA es z (v, m)) Q))
theorem ok_put (F : Fx K mg) (E0 : Fe P K mg) (T : Fs K mg) (G1 : Cal P w K mg base CX0 1 "is_name" ["value"] spName) (G2 : Cal P w K mg base (L2.CX P w) 7 "require_machine" ["value"] (spRMach K)) (G3 : CalM P w K mg base CX0 1 "step" ["self", "machines"] (spStep K)) : CalM P w K mg base (L2.CX P w) 8 "put" ["self", "name", "machine"] (spPut K) := by
  refine calm_of T.put scPut (fun vs H Q E h => ?_) (fun _ _ _ _ _ _ us hl => match us, hl with | [_, _, _], _ => rfl) fun f cdv A outer s H vs Q E hr h => ⟨_, pss_cons (ps_if (pt_not (pt_val (pe_cal G1 (hr.mono (by decide)) (by rfl) pass0 (pa_cons (pv 1) pa_nil)))) (pss_one (ps_nam E0 rfl (takes_of rfl rfl rfl rfl))) pss_nil)
    (pss_cons (ps_expr (pe_cal G2 hr (by rfl) pass (pa_cons (pv 2) pa_nil)))
    (pss_cons (ps_if (pw_and (pt_cmp (pc_dnotin (hu_of hr) (pv 1) (pe_fld (pv 0) rfl))) (pw_and1 (pt_cmpR op_eq (pe_callB call_lenD (by rfl) (F.b "len" (by decide)) boot_len (pa_cons (pe_fld (pv 0) rfl) pa_nil)) (pe_gi F.c_machines) (nomark _)))).pt (pss_one (ps_many E0 rfl (hr.mono (by decide)) (takes_of rfl rfl rfl rfl) (pe_gi F.c_machines))) pss_nil)
    (pss_one (ps_expr (pe_calm T.cl G3 (hr.mono (by decide)) pass0 (pv 0) (pa_cons (pe_star (pe_fld (pv 0) rfl) (pv 1) (pv 2)) pa_nil)))))), ?_⟩
  · obtain ⟨p, dx, lp, lf, an, past, cur, fut, es, x, d, y, om, rfl, _⟩ := h
    rfl
  · obtain ⟨p, dx, lp, lf, an, past, cur, fut, es, x, d, y, om, rfl, sh, de, hpl, hel, hd, hdl, hm, hb1, hb2, hq⟩ := h
    refine ⟨_, rfl, x, d, rfl, hd, hdl, fun H1 s1 => ⟨_, rfl, ?_⟩⟩
    cases e1 : isNm d with
    | false => exact iteT (hb1 e1 H1 s1)
    | true =>
      refine iteF ⟨_, rfl, y, om, rfl, hm.keep s1.tups, fun e2 H2 s2 => ?_, fun e2 H2 s2 => hb2 e1 e2 H2 (s1.trans s2)⟩
      obtain ⟨z, rfl, rfl⟩ : ∃ z, x = .str z ∧ d = .str z := isS_of hd (by cases d <;> first | rfl | cases e1)
      cases hm with
      | non => cases e2
      | @m _ m hm hs =>
        obtain ⟨hq1, hq2⟩ := hq z m rfl rfl e1 e2
        have s12 := s1.trans s2
        have sh2 := sh.same s12
        have de2 := de.same s12
        have hgz : DGet H2 cur (.str z) ((getA es z).map fun p => p.1) := by
          have := DGet.k (k := Sum.inr z) de2.at_
          rw [kvE_get] at this
          exact this
        obtain ⟨b, rfl⟩ : ∃ b, y = V.ref b := by
          obtain ⟨a, _, _, rfl, _⟩ := mach_of hm
          exact ⟨a, rfl⟩
        have rest : ¬ (getA es z = none ∧ es.length = 12) → tDrop (tMeth (aS K) "step" (spStep K) [] L2.E0 (tVar 0) (tCons (tStar (tFld K (tVar 0) "own_machines") (tVar 1) (tVar 2)) tNil)) { nx := fun _ H' => Q .non H', rt := Q } [some (.ref p), some (.str z), some (.ref b)] H2 := fun hn => by
          have hq3 := hq2 hn
          refine ⟨_, rfl, p, dx, _, rfl, sh2.at_, rfl, fun D hD => ?_⟩
          have sD : Same H2 (upd H2 D (.dK [])) := same_laid hD
          refine ⟨_, rfl, p, _, dx, _, _, rfl, sD _ _ sh2.at_, T.cl, T.n1, rfl, cur, kvE es, rfl, sD _ _ de2.at_, upd_same, ne_of_none de2.at_ hD, by rw [kvE_len, sizeLine_eq]; omega, fun S hS hSD => ?_⟩
          have hS2 : H2 S = none := sD.free hS
          have sS : Same H2 (upd (upd (upd H2 D (.dK [])) D (.dK (kvE es))) S (.dK [])) := fun c o e => by
            rw [upd_ne (ne_of_none e hS2), upd_ne (ne_of_none e hD), upd_ne (ne_of_none e hD)]
            exact e
          refine ⟨_, rfl, _, rfl, Sum.inr z, rfl, ?_, upd_same, Ne.symm hSD, ?_⟩
          · rw [upd_ne (Ne.symm hSD), upd_same]
          · refine star_step (H := H2) (m := m) sh2 de2 hpl hel (fun v hv H' lf' cu an' h1 h2 h3 h4 h5 h6 => hq3 v hv H' lf' cu an' (s12.free h1) (h2.imp id s12.free) (s12.free h3) (fun c o e n => h4 c o (s12 c o e) n) h5 h6) hD hS2 hSD sS ?_ upd_same ((hm.keep s12.tups).keep sS.tups)
            rw [upd_ne (Ne.symm hSD), upd_same]
        refine ⟨_, rfl, _, rfl, p, _, dx, _, _, rfl, sh2.at_, T.cl, T.n1, rfl, cur, _, rfl, hgz, _, rfl, ?_⟩
        cases hg : getA es z with
        | some q => exact iteF (rest fun c => by rw [hg] at c; exact absurd c.1 (by simp))
        | none =>
          refine iteT ⟨_, rfl, p, _, dx, _, _, rfl, sh2.at_, T.cl, T.n1, rfl, cur, kvE es, rfl, de2.at_, rfl, _, rfl, ?_⟩
          rw [kvE_len]
          by_cases h12 : es.length = 12
          · have e : decide (V.int ((es.length : Nat) : Int) = V.int 12) = true := decide_eq_true (by rw [h12]; rfl)
            rw [e]
            exact iteT ((hq1 ⟨hg, h12⟩).trans s12)
          · have e : decide (V.int ((es.length : Nat) : Int) = V.int 12) = false := decide_eq_false (fun z => by injection z with z; omega)
            rw [e]
            exact iteF (rest fun c => h12 c.2)
end
end T83

set_option Elab.async false
set_option linter.all false
set_option maxRecDepth 100000
set_option maxHeartbeats 2000000
namespace T83
open PySem PySem.Spec PyProof.Rows L2 RZ
/-- a new name that a list without doubles has behind -/
theorem del_snoc {es : List Ent} (nd : (es.map (·.1)).Nodup) {i : Nat} {e : Ent} (h : es[i]? = some e) (z : Str) :
    (e.1 ≠ z → putK (kvE (delA (es.take i) z)) (Sum.inr e.1) e.2.1 = kvE (delA (es.take (i + 1)) z)) ∧ (e.1 = z → delA (es.take (i + 1)) z = delA (es.take i) z) := by
  have hs : es.take (i + 1) = es.take i ++ [e] := by
    rw [List.take_add_one, h]
    rfl
  have hd : delA (es.take (i + 1)) z = delA (es.take i) z ++ delA [e] z := by
    rw [hs]
    exact List.filter_append _ _
  refine ⟨fun hz => ?_, fun hz => ?_⟩
  · have h1 : delA [e] z = [e] := by
      unfold delA
      rw [List.filter_cons, if_pos (by simpa using hz)]
      rfl
    have h2 : getA (delA (es.take i) z) e.1 = none := getA_none.mpr fun hm => by
      obtain ⟨q, hq, hq1⟩ := List.mem_map.mp hm
      exact take_notin nd h (List.mem_map.mpr ⟨q, (List.mem_filter.mp hq).1, hq1⟩)
    rw [putK_new _ (by rw [kvE_get, h2]; rfl), hd, h1]
    unfold kvE
    rw [List.map_append]
    rfl
  · rw [hd]
    have h1 : delA [e] z = [] := by
      unfold delA
      rw [List.filter_cons, if_neg (by simpa using hz)]
      rfl
    rw [h1, List.append_nil]
theorem upd_upd' {H : Hp} {a : Addr} {o u : HO} : upd (upd H a o) a u = upd H a u := by
  funext b
  by_cases h : b = a
  · rw [h, upd_same, upd_same]
  · rw [upd_ne h, upd_ne h, upd_ne h]
section
variable {P : Program} {w : World} {K : PySem.W.Frag} {mg : Str → Option Value} {base : Heap}
/-! ### drop -/
abbrev nDrop : List Str := ["self", "name", "key", "answer", "machine"]
theorem scDrop : FnScope nDrop ["self", "name"] (defScope (inClass (top 100) 3)) := ⟨rfl, rfl, rfl, by decide +kernel, rfl, by decide +kernel, by decide +kernel⟩
def spDrop (K : PySem.W.Frag) : Sp := fun vs H Q E => ∃ p dx lp lf an past cur fut es x d, vs = [.ref p, x] ∧ Shf K H p dx lp lf an past cur fut ∧ DE H cur es ∧ past.length ≤ 1000 ∧ es.length ≤ 1000 ∧ (es.map (·.1)).Nodup ∧ Dv H x d ∧
  (hasN (accE es) d = false → BadN E (cA K "UnknownName") "name" x H) ∧ (∀ z, d = .str z → hasN (accE es) d = true → Stepd K H p dx lp an past cur (delA es z) Q)
theorem ok_drop (F : Fx K mg) (T : Fs K mg) (G1 : CalM P w K mg base (L2.CX P w) 2 "require_known" ["self", "name"] (spKnown K)) (G2 : CalM P w K mg base CX0 1 "step" ["self", "machines"] (spStep K)) : CalM P w K mg base (L2.CX P w) 3 "drop" ["self", "name"] (spDrop K) := by
  refine calm_of T.drop scDrop (fun vs H Q E h => ?_) (fun _ _ _ _ _ _ us hl => match us, hl with | [_, _], _ => rfl) fun f cdv A outer s H vs Q E hr h => ⟨_, pss_cons (ps_expr (pe_calm T.cl G1 hr pass (pv 0) (pa_cons (pv 1) pa_nil)))
    (pss_cons (ps_fld (pv 0) (pe_lock (pe_dc (own := [("key", 2), ("answer", 3)]) (g := gTup K 2 (gCons (gName 2) (gCons (gName 3) gNil))) rfl scDrop.nd (pi_items (pe_fld (pv 0) rfl)) (blkOk_by (N := nDrop) (sc := defScope (inClass (top 100) 3)) (by decide +kernel))
        (fun _ _ _ _ _ => pg_tup rfl (pgs_cons (pg_name (i := 2) scDrop.nd rfl (Or.inl rfl)) (pgs_cons (pg_name (i := 3) scDrop.nd rfl (Or.inl rfl)) pgs_nil))) (fun _ _ _ _ _ => pts_one (pt_cmpR op_ne (pe_ix (show IxR _ (rIxT K) from ix_tup) (pv 2) pe_int (fun _ _ => rfl)) (pv 1) (nomark _))) (fun _ _ _ _ _ => pv 2) (fun _ _ _ _ _ => pv 3))) rfl)
    (pss_one (ps_expr (pe_calm T.cl G2 (hr.mono (by decide)) pass0 (pv 0) (pa_cons (pe_lock (pe_dc (own := [("key", 2), ("machine", 4)]) (g := gTup K 2 (gCons (gName 2) (gCons (gName 4) gNil))) rfl scDrop.nd (pi_items (pe_fld (pv 0) rfl)) (blkOk_by (N := nDrop) (sc := defScope (inClass (top 100) 3)) (by decide +kernel))
        (fun _ _ _ _ _ => pg_tup rfl (pgs_cons (pg_name (i := 2) scDrop.nd rfl (Or.inl rfl)) (pgs_cons (pg_name (i := 4) scDrop.nd rfl (Or.inl rfl)) pgs_nil))) (fun _ _ _ _ _ => pts_one (pt_cmpR op_ne (pv 2) (pv 1) (nomark _))) (fun _ _ _ _ _ => pv 2) (fun _ _ _ _ _ => pv 4))) pa_nil))))), ?_⟩
  · obtain ⟨p, dx, lp, lf, an, past, cur, fut, es, x, d, rfl, _⟩ := h
    rfl
  · obtain ⟨p, dx, lp, lf, an, past, cur, fut, es, x, d, rfl, sh, de, hpl, hel, hnd, hd, hb, hq⟩ := h
    refine ⟨_, rfl, p, dx, _, rfl, sh.at_, rfl, _, rfl, p, dx, cur, lp, lf, an, es, x, d, rfl, sh.at_, de, hd, fun hh => ?_, hb⟩
    obtain ⟨z, rfl, rfl⟩ : ∃ z, x = .str z ∧ d = .str z := isS_of hd (by cases d <;> first | rfl | cases hh)
    have hq := hq z rfl hh
    have hap : an ≠ p := ne_of sh.an_ sh.at_ (by intro z; cases z)
    have hcp : cur ≠ p := ne_of de.at_ sh.at_ (by intro z; cases z)
    refine ⟨an, .dK [], sh.an_, True.intro, fun od => ?_⟩
    have pL : (upd H an (.frz od (.dK []))) p = some (shO K dx cur lp lf an) := by rw [upd_ne hap.symm]; exact sh.at_
    refine ⟨_, rfl, p, _, dx, _, _, rfl, pL, T.cl, T.n4, rfl, an, od, [], rfl, upd_same, fun A hA => ?_⟩
    have hAn : A ≠ an := (ne_of_none upd_same hA).symm
    have hAp : A ≠ p := (ne_of_none pL hA).symm
    have hAH : H A = none := by rw [upd_ne hAn] at hA; exact hA
    refine dc_it (n := 0) (walk_items (kvs := [])) (fun i H' => H' = upd (upd H an (.frz od (.dK []))) A (.dK [])) rfl (fun i H' _ h => by rw [h, upd_ne (Ne.symm hAn), upd_same]) (fun i x H' H'' hi _ _ => absurd hi (Nat.not_lt_zero _)) (fun H' hH' => ?_)
    subst hH'
    refine ⟨by rw [upd_ne (Ne.symm hAn), upd_same], ?_⟩
    generalize hH1 : upd (upd (upd H an (.frz od (.dK []))) A (.dK [])) an (.dK []) = H1
    have k1 : Same H H1 := fun b o e => by
      rw [← hH1]
      by_cases hb : b = an
      · rw [hb, upd_same]
        rw [hb, sh.an_] at e
        exact e
      · rw [upd_ne hb, upd_ne (ne_of_none e hAH), upd_ne hb]
        exact e
    have a1 : H1 A = some (.dK []) := by rw [← hH1, upd_ne hAn, upd_same]
    refine ⟨_, rfl, p, _, dx, _, rfl, k1 _ _ sh.at_, T.cl, T.n4, (show (4 : Nat) < 1000 by decide), ?_⟩
    generalize hH2 : upd H1 p (.ins (aS K) dx (putF "own_answers" (.ref A) [("own_machines", .ref cur), ("own_past", .ref lp), ("own_future", .ref lf), ("own_answers", .ref an)])) = H2
    have p2 : H2 p = some (shO K dx cur lp lf A) := by rw [← hH2, upd_same]; rfl
    have k2 : Kp [p] H H2 := fun b o e n => by
      rw [← hH2, upd_ne (by simpa using n)]
      exact k1 b o e
    have a2 : H2 A = some (.dK []) := by rw [← hH2, upd_ne hAp]; exact a1
    have c2 : H2 cur = some (.dK (kvE es)) := k2 _ _ de.at_ (by simpa using hcp)
    refine ⟨_, rfl, p, dx, _, rfl, p2, rfl, cur, .dK (kvE es), c2, True.intro, fun od2 => ?_⟩
    generalize hHL : upd H2 cur (.frz od2 (.dK (kvE es))) = HL
    have pL2 : HL p = some (shO K dx cur lp lf A) := by rw [← hHL, upd_ne hcp.symm]; exact p2
    have cL : HL cur = some (.frz od2 (.dK (kvE es))) := by rw [← hHL, upd_same]
    have oL : ∀ b o, b ≠ cur → H2 b = some o → HL b = some o := fun b o n e => by rw [← hHL, upd_ne n]; exact e
    refine ⟨_, rfl, p, _, dx, _, _, rfl, pL2, T.cl, T.n1, rfl, cur, od2, kvE es, rfl, cL, fun D hD => ?_⟩
    have haD : ∀ b o, HL b = some o → b ≠ D := fun b o e => ne_of_none e hD
    have hDH : H D = none := by
      cases e : H D with
      | none => rfl
      | some o =>
        by_cases h1 : D = cur
        · rw [h1, cL] at hD
          cases hD
        by_cases h2 : D = p
        · rw [h2, pL2] at hD
          cases hD
        · have := oL _ _ h1 (k2 _ _ e (by simpa using h2))
          rw [hD] at this
          cases this
    refine dc_it (n := (kvE es).length) walk_items (fun i H' => Same HL H' ∧ H' D = some (.dK (kvE (delA (es.take i) z)))) ⟨fun b o e => by rw [upd_ne (haD b o e)]; exact e, upd_same⟩ (fun i H' _ h => h.1 _ _ cL) (fun i y H3 H4 hi hP hY => ?_) (fun H' hP => ?_)
    · obtain ⟨sm, hDd⟩ := hP
      obtain ⟨t, x1, x2, rfl, ht, rfl, e1, e2⟩ := hY
      rw [kvE_len] at hi
      have hei : es[i]? = some es[i] := List.getElem?_eq_getElem hi
      have hkv : (kvE es)[i]? = some ((Sum.inr es[i].1 : Key), es[i].2.1) := by
        unfold kvE
        rw [List.getElem?_map, hei]
        rfl
      have e1 : ((kvE es)[i]?).map (fun kv => kV kv.1) = some x1 := e1
      have e2 : ((kvE es)[i]?).map Prod.snd = some x2 := e2
      rw [hkv] at e1 e2
      obtain rfl : x1 = V.str es[i].1 := (Option.some.inj e1).symm
      obtain rfl : x2 = es[i].2.1 := (Option.some.inj e2).symm
      have s4 : Same H3 (upd H3 t (.tup [V.str es[i].1, es[i].2.1])) := same_laid ht
      obtain ⟨d1, d2⟩ := del_snoc hnd hei z
      refine ⟨t, _, rfl, SqT.of upd_same, rfl, _, _, rfl, _, _, rfl, rfl, rfl, _, rfl, _, rfl, rfl, ?_⟩
      refine ⟨_, rfl, ?_⟩
      by_cases hez : es[i].1 = z
      · have e : (!decide (V.str es[i].1 = V.str z)) = false := by rw [decide_eq_true (by rw [hez])]; rfl
        rw [e]
        exact iteF ⟨sm.trans s4, by rw [d2 hez]; exact s4 _ _ hDd⟩
      · have e : (!decide (V.str es[i].1 = V.str z)) = true := by rw [decide_eq_false (fun q => hez (by injection q))]; rfl
        rw [e]
        refine iteT ⟨_, rfl, _, rfl, _, Sum.inr es[i].1, rfl, s4 _ _ hDd, ?_, ?_, ?_⟩
        · have h1 : (delA (es.take i) z).length ≤ (es.take i).length := List.length_filter_le _ _
          rw [List.length_take] at h1
          rw [kvE_len, sizeLine_eq]
          omega
        · exact fun b o e => by rw [upd_ne (haD b o e)]; exact s4 _ _ (sm b o e)
        · rw [upd_same, d1 hez]
    · obtain ⟨sm, hDd⟩ := hP
      rw [kvE_len, List.take_length] at hDd
      refine ⟨sm _ _ cL, ?_⟩
      generalize hH5 : upd H' cur (.dK (kvE es)) = H5
      have k5 : Kp [p] H H5 := fun b o e n => by
        rw [← hH5]
        by_cases hb : b = cur
        · rw [hb, upd_same]
          rw [hb, de.at_] at e
          exact e
        · rw [upd_ne hb]
          exact sm _ _ (oL _ _ hb (k2 b o e n))
      have p5 : H5 p = some (shO K dx cur lp lf A) := by rw [← hH5, upd_ne hcp.symm]; exact sm _ _ pL2
      have hlpp : lp ≠ p := ne_of sh.lp_ sh.at_ (by intro z; cases z)
      have hlfp : lf ≠ p := ne_of sh.lf_ sh.at_ (by intro z; cases z)
      have hAc : A ≠ cur := fun q => by
        rw [q] at hAH
        rw [de.at_] at hAH
        cases hAH
      have sh5 : Shf K H5 p dx lp lf A past cur fut := ⟨p5, k5 _ _ sh.lp_ (by simpa using hlpp), k5 _ _ sh.lf_ (by simpa using hlfp), by rw [← hH5, upd_ne hAc]; exact sm _ _ (oL _ _ hAc a2), sh.ne⟩
      have hDc : D ≠ cur := (haD _ _ cL).symm
      have tk5 : TupK H H5 := Kp.tups k5 (Mu.cons sh.at_ True.intro (Mu.nil _))
      have de5 : DE H5 D (delA es z) := ⟨by rw [← hH5, upd_ne hDc]; exact hDd, fun e he => (de.ok.keep tk5) e (List.mem_filter.mp he).1⟩
      refine ⟨p, dx, lp, lf, A, past, cur, fut, D, rfl, sh5, hpl, fun H6 lf' hlf kp sh6 => ?_⟩
      have mu5 : Mu H5 [p, lp] := Mu.cons p5 True.intro (Mu.cons sh5.lp_ True.intro (Mu.nil _))
      refine hq H6 lf' D A ?_ (.inr hAH) hDH (fun b o e n => ?_) (de5.kp kp mu5) sh6
      · cases e : H lf' with
        | none => rfl
        | some o =>
          by_cases h2 : lf' = p
          · rw [h2, p5] at hlf
            cases hlf
          · have := k5 _ _ e (by simpa using h2)
            rw [hlf] at this
            cases this
      · exact kp b o (k5 b o e (fun hb => n (by simp at hb ⊢; exact .inl hb))) n
end
end T83

set_option Elab.async false
set_option linter.all false
set_option maxRecDepth 100000
set_option maxHeartbeats 2000000
namespace T83
open PySem PySem.Spec PyProof.Rows L2 RZ
theorem wi_int {a b : Int} {d : PyData} (h : wi a b d = true) : ∃ i, d = .int i ∧ a ≤ i ∧ i ≤ b := by
  cases d with
  | int i =>
    have h : (decide (a ≤ i) && decide (i ≤ b)) = true := h
    rw [Bool.and_eq_true, decide_eq_true_eq, decide_eq_true_eq] at h
    exact ⟨i, rfl, h⟩
  | _ => cases h
theorem dv_int {H : Hp} {x : V} {i : Int} (h : Dv H x (.int i)) : x = .int i := by
  cases h with
  | tp h => cases h; rfl
theorem dv_str {H : Hp} {x : V} {z : Str} (h : Dv H x (.str z)) : x = .str z := by
  cases h with
  | tp h => cases h; rfl
/-- machines of a size that is told -/
def EG (es : List Ent) : Prop := ∀ e ∈ es, Sml e.2.2 ∧ e.2.2.2.length = e.2.2.1.length
section
variable {P : Program} {w : World} {K : PySem.W.Frag} {mg : Str → Option Value} {base : Heap}
/-- self.step({**self.own_machines, name: with_choices(machine, place, row)}) -/
theorem tail_ok {H Hr : Hp} {p dx lp lf an cur l : Addr} {past fut : List Addr} {es : List Ent} {z : Str} {m : Mach} {v : V} {j a b : Nat} {ks : List KC} {σ : L2.St} {D : Ends} {E : XK} {Q : VK} (T : Fs K mg) (sh : Shf K H p dx lp lf an past cur fut) (de : DE H cur es) (hpl : past.length ≤ 1000) (hel : es.length ≤ 1000) (s : Same H Hr)
    (hm : Tp H v (dM m)) (sm : Sml m) (hj : j < m.2.length) (hl : Hr l = some (.lst (rf ks))) (hk : TC Hr ks) (hkl : ks.length ≤ 100) (hkp : ∀ p ∈ ks, p.2.2.length ≤ 100) (h0 : σ[0]? = some (some (.ref p))) (h1 : σ[1]? = some (some (.str z))) (h2 : σ[2]? = some (some (.int (j : Int)))) (ha : σ[a]? = some (some v)) (hb : σ[b]? = some (some (.ref l)))
    (hbad : okM (setR m j (ks.map (·.2))) = false → BadC E (cA K "InvalidMachine") H) (hgood : okM (setR m j (ks.map (·.2))) = true → ∀ v', (∃ b, v' = V.ref b) → Stepd K H p dx lp an past cur (putA es z (v', setR m j (ks.map (·.2)))) Q) (hD : D.nx σ = fun H' => Q .non H') :
    tDrop (tMeth (aS K) "step" (spStep K) [] L2.E0 (tVar 0) (tCons (tStar (tFld K (tVar 0) "own_machines") (tVar 1) (tCall (spWithC K) [] E (tCons (tVar a) (tCons (tVar 2) (tCons (tVar b) tNil))))) tNil)) D σ Hr := by
  have shr := sh.same s
  have der := de.same s
  refine ⟨_, h0, p, dx, _, rfl, shr.at_, rfl, fun DD hDD => ?_⟩
  have sD : Same Hr (upd Hr DD (.dK [])) := same_laid hDD
  refine ⟨_, h0, p, _, dx, _, _, rfl, sD _ _ shr.at_, T.cl, T.n1, rfl, cur, kvE es, rfl, sD _ _ der.at_, upd_same, ne_of_none der.at_ hDD, by rw [kvE_len, sizeLine_eq]; omega, fun S hS hSD => ?_⟩
  have hS2 : Hr S = none := sD.free hS
  have sS : Same Hr (upd (upd (upd Hr DD (.dK [])) DD (.dK (kvE es))) S (.dK [])) := fun c o e => by
    rw [upd_ne (ne_of_none e hS2), upd_ne (ne_of_none e hDD), upd_ne (ne_of_none e hDD)]
    exact e
  refine ⟨_, h1, _, ha, _, h2, _, hb, v, m, j, l, ks, rfl, hm.keep (s.trans sS).tups, sm, hj, SqL.of (sS _ _ hl), tc_same sS hk, hkl, hkp, fun hok H5 v5 s5 hv5 => ?_, fun hno H5 s5 => ?_⟩
  · rw [withR_eq] at hok hv5
    have hgd := hgood hok
    obtain ⟨b5, rfl⟩ : ∃ b5, v5 = V.ref b5 := by
      obtain ⟨a5, _, _, rfl, _⟩ := mach_of hv5
      exact ⟨a5, rfl⟩
    have hD5 : H5 DD = some (.dK (kvE es)) := s5 _ _ (by rw [upd_ne (Ne.symm hSD), upd_same])
    have hS5 : H5 S = some (.dK []) := s5 _ _ upd_same
    refine ⟨Sum.inr z, rfl, hD5, hS5, Ne.symm hSD, ?_⟩
    refine star_step (H := Hr) (m := setR m j (ks.map (·.2))) (Q := fun _ H' => D.nx σ H') shr der hpl hel (fun v' hv' H' lf' cu an' h1 h2 h3 h4 h5 h6 => ?_) hDD hS2 hSD (sS.trans s5) hD5 hS5 hv5
    show D.nx σ H'
    rw [congrFun hD H']
    exact hgd v' hv' H' lf' cu an' (s.free h1) (h2.imp id s.free) (s.free h3) (fun c o e n => h4 c o (s c o e) n) h5 h6
  · rw [withR_eq] at hno
    exact hbad hno H5 ((s.trans sS).trans s5)
/-! ### price -/
abbrev nPrice : List Str := ["self", "name", "place", "index", "number", "machine", "row"]
theorem scPrice : FnScope nPrice ["self", "name", "place", "index", "number"] (defScope (inClass (top 100) 4)) := ⟨rfl, rfl, rfl, by decide +kernel, rfl, by decide +kernel, by decide +kernel⟩
/-- the choice at a place and an index, or what is wrong -/
def Sel (K : PySem.W.Frag) (H : Hp) (es : List Ent) (x : V) (d : PyData) (yp : V) (dp : PyData) (yi : V) (di : PyData) (E : XK) (R : Str → V → Mach → Nat → List Chc → Nat → Chc → Prop) : Prop :=
  (hasN (accE es) d = false → BadN E (cA K "UnknownName") "name" x H) ∧ ∀ z v m, d = .str z → getA es z = some (v, m) → (wi 0 ((m.1.length : Int) - 1) dp = false → BadN E (cA K "InvalidNumber") "value" yp H) ∧
    ∀ (j : Nat) r, dp = .int (j : Int) → m.2[j]? = some r → (wi 0 ((r.length : Int) - 1) di = false → BadN E (cA K "InvalidNumber") "value" yi H) ∧ ∀ (i : Nat) c, di = .int (i : Int) → r[i]? = some c → R z v m j r i c
/-- another row of choices, or no machine -/
def Rowd (K : PySem.W.Frag) (H : Hp) (p dx lp an : Addr) (past : List Addr) (cur : Addr) (es : List Ent) (z : Str) (m : Mach) (Q : VK) (E : XK) : Prop :=
  (okM m = false → BadC E (cA K "InvalidMachine") H) ∧ (okM m = true → ∀ v', (∃ b, v' = V.ref b) → Stepd K H p dx lp an past cur (putA es z (v', m)) Q)
def spPrice (K : PySem.W.Frag) : Sp := fun vs H Q E => ∃ p dx lp lf an past cur fut es x d yp dp yi di n, vs = [.ref p, x, yp, yi, .int n] ∧ Shf K H p dx lp lf an past cur fut ∧ DE H cur es ∧ past.length ≤ 1000 ∧ es.length ≤ 1000 ∧ EG es ∧ Dv H x d ∧ Dv H yp dp ∧ Dv H yi di ∧
  Sel K H es x d yp dp yi di E fun z _ m j r i c => (wi 0 (10 ^ 6) (.int n) = false → BadN E (cA K "InvalidNumber") "value" (.int n) H) ∧ (wi 0 (10 ^ 6) (.int n) = true → Rowd K H p dx lp an past cur es z (setR m j (r.set i (n, c.2))) Q E)
theorem ok_price (F : Fx K mg) (E0 : Fe P K mg) (T : Fs K mg) (G1 : CalM P w K mg base (L2.CX P w) 3 "machine" ["self", "name"] (spMachine K)) (G2 : Cal P w K mg base (L2.CX P w) 3 "require_place" ["machine", "value"] (spRPlace K)) (G3 : Cal P w K mg base (L2.CX P w) 3 "require_index" ["machine", "place", "value"] (spRIndex K)) (G4 : Cal P w K mg base (L2.CX P w) 3 "require_amount" ["value", "most"] (spRAmount K))
    (G5 : CalM P w K mg base CX0 1 "step" ["self", "machines"] (spStep K)) (G6 : Cal P w K mg base (L2.CX P w) 7 "with_choices" ["machine", "place", "row"] (spWithC K)) : CalM P w K mg base (L2.CX P w) 8 "price" ["self", "name", "place", "index", "number"] (spPrice K) := by
  refine calm_of T.price scPrice (fun vs H Q E h => ?_) (fun _ _ _ _ _ _ us hl => match us, hl with | [_, _, _, _, _], _ => rfl) fun f cdv A outer s H vs Q E hr h => ⟨_, pss_cons (ps_set (i := 5) scPrice.nd rfl (Or.inl rfl) (pe_calm T.cl G1 (hr.mono (by decide)) pass (pv 0) (pa_cons (pv 1) pa_nil)))
    (pss_cons (ps_expr (pe_cal G2 (hr.mono (by decide)) (by rfl) pass (pa_cons (pv 5) (pa_cons (pv 2) pa_nil))))
    (pss_cons (ps_expr (pe_cal G3 (hr.mono (by decide)) (by rfl) pass (pa_cons (pv 5) (pa_cons (pv 2) (pa_cons (pv 3) pa_nil)))))
    (pss_cons (ps_expr (pe_cal G4 (hr.mono (by decide)) (by rfl) pass (pa_cons (pv 4) (pa_cons (pe_gi F.c_price) pa_nil))))
    (pss_cons (ps_set (i := 6) scPrice.nd rfl (Or.inl rfl) (pe_callTy call_list_of (by rfl) (F.b "list" (by decide)) (by decide +kernel) (pa_cons (pe_ix ix_tup (pe_ix ix_tup (pv 5) pe_int (fun _ _ => rfl)) (pv 2) (fun _ _ => rfl)) pa_nil)))
    (pss_cons (ps_asg (pe_tup (pa_cons (pv 4) (pa_cons (pe_ix ix_tup (pe_ix ix_list (pv 6) (pv 3) (fun _ _ => rfl)) pe_int (fun _ _ => rfl)) pa_nil))) (pg_sub (pv 6) (pv 3) set_list))
    (pss_one (ps_expr (pe_calm T.cl G5 (hr.mono (by decide)) pass0 (pv 0) (pa_cons (pe_star (pe_fld (pv 0) rfl) (pv 1) (pe_cal G6 hr (by rfl) pass (pa_cons (pv 5) (pa_cons (pv 2) (pa_cons (pv 6) pa_nil))))) pa_nil))))))))), ?_⟩
  · obtain ⟨p, dx, lp, lf, an, past, cur, fut, es, x, d, yp, dp, yi, di, n, rfl, _⟩ := h
    rfl
  · obtain ⟨p, dx, lp, lf, an, past, cur, fut, es, x, d, yp, dp, yi, di, n, rfl, sh, de, hpl, hel, hg, hd, hdp, hdi, hb1, hR⟩ := h
    refine ⟨_, rfl, p, dx, _, rfl, sh.at_, rfl, _, rfl, p, dx, cur, lp, lf, an, es, x, d, rfl, sh.at_, de, hd, fun z m v ez ev => ?_, hb1⟩
    obtain ⟨hb2, hR1⟩ := hR z v m ez ev
    clear hR
    subst ez
    obtain rfl := dv_str hd
    have hmem := getA_mem ev
    obtain ⟨hsm, hln⟩ := hg _ hmem
    have hm : Tp H v (dM m) := (de.ok _ hmem).2
    have hsg := hsm.sg
    refine ⟨_, rfl, _, rfl, v, m, yp, dp, rfl, hm, hsg, hdp, fun w1 => ?_, hb2⟩
    obtain ⟨jj, rfl, hj0, hj1⟩ := wi_int w1
    obtain ⟨j, rfl⟩ := Int.eq_ofNat_of_zero_le hj0
    have hjl : j < m.2.length := by
      have : m.2.length = m.1.length := hln
      omega
    obtain ⟨hb3, hR2⟩ := hR1 j _ rfl (List.getElem?_eq_getElem hjl)
    have hrj := List.getElem?_eq_getElem hjl
    generalize m.2[j] = r at hb3 hR2 hrj
    clear hR1
    obtain rfl := dv_int hdp
    obtain ⟨hrl, hrc⟩ := hsm.row r (List.mem_of_getElem? hrj)
    refine ⟨_, rfl, _, rfl, _, rfl, v, m, j, r, yi, di, rfl, hm, hrj, by omega, hdi, fun w2 => ?_, hb3⟩
    obtain ⟨ii, rfl, hi0, hi1⟩ := wi_int w2
    obtain ⟨i, rfl⟩ := Int.eq_ofNat_of_zero_le hi0
    have hil : i < r.length := by omega
    obtain ⟨hb4, hR3⟩ := hR2 i _ rfl (List.getElem?_eq_getElem hil)
    have hci := List.getElem?_eq_getElem hil
    generalize r[i] = c at hb4 hR3 hci
    obtain rfl := dv_int hdi
    refine ⟨_, rfl, .int n, .int n, _, rfl, .tp (.int n), fun w3 => ?_, hb4⟩
    obtain ⟨hbad, hgood⟩ := hR3 w3
    obtain ⟨a, b, xs, rfl, ha, hbb, hxs⟩ := mach_of hm
    obtain ⟨bb, ks, e1, hkr, hbk, hk⟩ := rowAt hxs hrj
    subst hkr
    rw [List.getElem?_map] at hci
    obtain ⟨kc, hkc, rfl⟩ := Option.map_eq_some_iff.mp hci
    obtain ⟨ac, y, eac, hac, hy⟩ := chc_of (hk kc (List.mem_of_getElem? hkc))
    have hkl : ks.length ≤ 100 := by rw [List.length_map] at hrl; exact hrl
    have hik : i < ks.length := (List.getElem?_eq_some_iff.mp hkc).1
    have hrfi : (rf ks)[i]? = some (.ref kc.1) := by
      show (ks.map fun p => V.ref p.1)[i]? = _
      rw [List.getElem?_map, hkc]
      rfl
    have hac2 : H kc.1 = some (.tup [.int kc.2.1, y]) := by
      injection eac with eac
      rw [eac]
      exact hac
    refine ⟨_, rfl, a, _, 1, _, rfl, rfl, SqT.of ha, rfl, _, rfl, b, _, (j : Int), _, rfl, rfl, SqT.of hbb, atI_nat e1, bb, rf ks, rfl, .inr (SqT.of hbk), fun l hl => ?_⟩
    have s1 : Same H (upd H l (.lst (rf ks))) := same_laid hl
    refine ⟨_, rfl, _, rfl, _, rfl, l, rf ks, (i : Int), _, rfl, rfl, SqL.of upd_same, atI_nat hrfi, kc.1, _, 1, y, rfl, rfl, SqT.of (s1 _ _ hac2), rfl, two_le2, fun t ht => ?_⟩
    have s2 : Same (upd H l (.lst (rf ks))) (upd (upd H l (.lst (rf ks))) t (.tup [.int n, y])) := same_laid ht
    have ix : ixN (rf ks).length ((i : Nat) : Int) = some i := by
      unfold ixN
      have : (rf ks).length = ks.length := List.length_map _
      rw [if_pos (by omega), if_pos (by omega)]
      rfl
    refine ⟨_, rfl, _, rfl, l, rf ks, (i : Int), i, rfl, rfl, s2 _ _ upd_same, ix, ?_⟩
    have htl : t ≠ l := (ne_of_none upd_same ht).symm
    have sr : Same H (upd (upd (upd H l (.lst (rf ks))) t (.tup [.int n, y])) l (.lst ((rf ks).set i (.ref t)))) := fun q o e => by
      rw [upd_ne (ne_of_none e hl)]
      exact s2 _ _ (s1 _ _ e)
    have erf : (rf ks).set i (.ref t) = rf (ks.set i (t, (n, kc.2.2))) := by
      unfold rf
      rw [List.map_set]
    have htr : (upd (upd (upd H l (.lst (rf ks))) t (.tup [.int n, y])) l (.lst ((rf ks).set i (.ref t)))) t = some (.tup [.int n, y]) := by rw [upd_ne htl, upd_same]
    have hkr2 : TC (upd (upd (upd H l (.lst (rf ks))) t (.tup [.int n, y])) l (.lst ((rf ks).set i (.ref t)))) (ks.set i (t, (n, kc.2.2))) := fun q hq => by
      rcases List.mem_or_eq_of_mem_set hq with z | z
      · exact (hk q z).keep sr.tups
      · rw [z]
        exact .tup htr (.cons (.int n) (.cons (hy.keep sr.tups) .nil))
    have emap : (ks.set i (t, (n, kc.2.2))).map (·.2) = (ks.map (·.2)).set i (n, kc.2.2) := by rw [List.map_set]
    rw [← emap] at hbad hgood
    refine tail_ok (K := K) (ks := ks.set i (t, (n, kc.2.2))) T sh de hpl hel sr hm hsm hjl (by rw [upd_same, erf]) hkr2 (by rw [List.length_set]; exact hkl) (fun q hq => ?_) rfl rfl rfl rfl rfl hbad hgood rfl
    rcases List.mem_or_eq_of_mem_set hq with z | z
    · exact hrc q.2 (List.mem_map.mpr ⟨q, z, rfl⟩)
    · rw [z]
      exact hrc kc.2 (List.mem_map.mpr ⟨kc, List.mem_of_getElem? hkc, rfl⟩)
end
end T83

set_option Elab.async false
set_option linter.all false
set_option maxRecDepth 100000
set_option maxHeartbeats 2000000
namespace T83
open PySem PySem.Spec PyProof.Rows L2 RZ
theorem putA_len {d : Prt} {g n : Int} : (putA d g n).length ≤ d.length + 1 := by
  have e := congrArg List.length (putA_keys d g n)
  rw [List.length_map] at e
  split at e
  · rw [List.length_map] at e
    omega
  · rw [List.length_append, List.length_map] at e
    simp at e
    omega
theorem withP_len {c : Chc} {g n : Int} (h : Prs c.2) : (withP c g n).2.length ≤ 100 := by
  have h1 := h.few
  have h2 := putA_len (d := c.2) (g := g) (n := n)
  have h3 : (partsD (putA c.2 g n)).length ≤ (putA c.2 g n).length := by
    unfold partsD overG leftD
    rw [List.length_map, List.length_map]
    refine Nat.le_trans (List.length_filter_le _ _) ?_
    rw [(keysD_perm _).length_eq, List.length_map]
    exact Nat.le_refl _
  show (partsD (putA c.2 g n)).length ≤ 100
  omega
/-- choices' parts as dicts -/
def EPs (es : List Ent) : Prop := ∀ e ∈ es, ∀ r ∈ e.2.2.2, ∀ c ∈ r, Prs c.2
section
variable {P : Program} {w : World} {K : PySem.W.Frag} {mg : Str → Option Value} {base : Heap}
/-! ### part -/
abbrev nPart : List Str := ["self", "name", "place", "index", "goal", "number", "machine", "row"]
theorem scPart : FnScope nPart ["self", "name", "place", "index", "goal", "number"] (defScope (inClass (top 100) 5)) := ⟨rfl, rfl, rfl, by decide +kernel, rfl, by decide +kernel, by decide +kernel⟩
def spPart (K : PySem.W.Frag) : Sp := fun vs H Q E => ∃ p dx lp lf an past cur fut es x d yp dp yi di yg dg n, vs = [.ref p, x, yp, yi, yg, .int n] ∧ Shf K H p dx lp lf an past cur fut ∧ DE H cur es ∧ past.length ≤ 1000 ∧ es.length ≤ 1000 ∧ EG es ∧ EPs es ∧ Dv H x d ∧ Dv H yp dp ∧ Dv H yi di ∧ Dv H yg dg ∧
  Sel K H es x d yp dp yi di E fun z _ m j r i c => (wi 0 ((m.1.length : Int) - 1) dg = false → BadN E (cA K "InvalidNumber") "value" yg H) ∧ ∀ g, dg = .int g → wi 0 ((m.1.length : Int) - 1) dg = true → (wi 0 (10 ^ 6) (.int n) = false → BadN E (cA K "InvalidNumber") "value" (.int n) H) ∧ (wi 0 (10 ^ 6) (.int n) = true → Rowd K H p dx lp an past cur es z (setR m j (r.set i (withP c g n))) Q E)
theorem ok_part (F : Fx K mg) (E0 : Fe P K mg) (T : Fs K mg) (G1 : CalM P w K mg base (L2.CX P w) 3 "machine" ["self", "name"] (spMachine K)) (G2 : Cal P w K mg base (L2.CX P w) 3 "require_place" ["machine", "value"] (spRPlace K)) (G3 : Cal P w K mg base (L2.CX P w) 3 "require_index" ["machine", "place", "value"] (spRIndex K)) (G4 : Cal P w K mg base (L2.CX P w) 3 "require_amount" ["value", "most"] (spRAmount K))
    (G7 : Cal P w K mg base CX0 1 "with_part" ["choice", "goal", "number"] spWithP) (G5 : CalM P w K mg base CX0 1 "step" ["self", "machines"] (spStep K)) (G6 : Cal P w K mg base (L2.CX P w) 7 "with_choices" ["machine", "place", "row"] (spWithC K)) : CalM P w K mg base (L2.CX P w) 8 "part" ["self", "name", "place", "index", "goal", "number"] (spPart K) := by
  refine calm_of T.part scPart (fun vs H Q E h => ?_) (fun _ _ _ _ _ _ us hl => match us, hl with | [_, _, _, _, _, _], _ => rfl) fun f cdv A outer s H vs Q E hr h => ⟨_, pss_cons (ps_set (i := 6) scPart.nd rfl (Or.inl rfl) (pe_calm T.cl G1 (hr.mono (by decide)) pass (pv 0) (pa_cons (pv 1) pa_nil)))
    (pss_cons (ps_expr (pe_cal G2 (hr.mono (by decide)) (by rfl) pass (pa_cons (pv 6) (pa_cons (pv 2) pa_nil))))
    (pss_cons (ps_expr (pe_cal G3 (hr.mono (by decide)) (by rfl) pass (pa_cons (pv 6) (pa_cons (pv 2) (pa_cons (pv 3) pa_nil)))))
    (pss_cons (ps_expr (pe_cal G2 (hr.mono (by decide)) (by rfl) pass (pa_cons (pv 6) (pa_cons (pv 4) pa_nil))))
    (pss_cons (ps_expr (pe_cal G4 (hr.mono (by decide)) (by rfl) pass (pa_cons (pv 5) (pa_cons (pe_gi F.c_part) pa_nil))))
    (pss_cons (ps_set (i := 7) scPart.nd rfl (Or.inl rfl) (pe_callTy call_list_of (by rfl) (F.b "list" (by decide)) (by decide +kernel) (pa_cons (pe_ix ix_tup (pe_ix ix_tup (pv 6) pe_int (fun _ _ => rfl)) (pv 2) (fun _ _ => rfl)) pa_nil)))
    (pss_cons (ps_asg (pe_cal G7 (hr.mono (by decide)) (by rfl) pass0 (pa_cons (pe_ix ix_list (pv 7) (pv 3) (fun _ _ => rfl)) (pa_cons (pv 4) (pa_cons (pv 5) pa_nil)))) (pg_sub (pv 7) (pv 3) set_list))
    (pss_one (ps_expr (pe_calm T.cl G5 (hr.mono (by decide)) pass0 (pv 0) (pa_cons (pe_star (pe_fld (pv 0) rfl) (pv 1) (pe_cal G6 hr (by rfl) pass (pa_cons (pv 6) (pa_cons (pv 2) (pa_cons (pv 7) pa_nil))))) pa_nil)))))))))), ?_⟩
  · obtain ⟨p, dx, lp, lf, an, past, cur, fut, es, x, d, yp, dp, yi, di, yg, dg, n, rfl, _⟩ := h
    rfl
  · obtain ⟨p, dx, lp, lf, an, past, cur, fut, es, x, d, yp, dp, yi, di, yg, dg, n, rfl, sh, de, hpl, hel, hg, hgp, hd, hdp, hdi, hdg, hb1, hR⟩ := h
    refine ⟨_, rfl, p, dx, _, rfl, sh.at_, rfl, _, rfl, p, dx, cur, lp, lf, an, es, x, d, rfl, sh.at_, de, hd, fun z m v ez ev => ?_, hb1⟩
    obtain ⟨hb2, hR1⟩ := hR z v m ez ev
    clear hR
    subst ez
    obtain rfl := dv_str hd
    have hmem := getA_mem ev
    obtain ⟨hsm, hln⟩ := hg _ hmem
    have hm : Tp H v (dM m) := (de.ok _ hmem).2
    have hsg := hsm.sg
    refine ⟨_, rfl, _, rfl, v, m, yp, dp, rfl, hm, hsg, hdp, fun w1 => ?_, hb2⟩
    obtain ⟨jj, rfl, hj0, hj1⟩ := wi_int w1
    obtain ⟨j, rfl⟩ := Int.eq_ofNat_of_zero_le hj0
    have hjl : j < m.2.length := by
      have : m.2.length = m.1.length := hln
      omega
    obtain ⟨hb3, hR2⟩ := hR1 j _ rfl (List.getElem?_eq_getElem hjl)
    have hrj := List.getElem?_eq_getElem hjl
    generalize m.2[j] = r at hb3 hR2 hrj
    clear hR1
    obtain rfl := dv_int hdp
    obtain ⟨hrl, hrc⟩ := hsm.row r (List.mem_of_getElem? hrj)
    refine ⟨_, rfl, _, rfl, _, rfl, v, m, j, r, yi, di, rfl, hm, hrj, by omega, hdi, fun w2 => ?_, hb3⟩
    obtain ⟨ii, rfl, hi0, hi1⟩ := wi_int w2
    obtain ⟨i, rfl⟩ := Int.eq_ofNat_of_zero_le hi0
    have hil : i < r.length := by omega
    have hR3 := hR2 i _ rfl (List.getElem?_eq_getElem hil)
    have hci := List.getElem?_eq_getElem hil
    generalize r[i] = c at hR3 hci
    obtain rfl := dv_int hdi
    obtain ⟨hb5, hR4⟩ := hR3
    refine ⟨_, rfl, _, rfl, v, m, yg, dg, rfl, hm, hsg, hdg, fun w4 => ?_, hb5⟩
    obtain ⟨g, rfl, hg0, hg1⟩ := wi_int w4
    obtain rfl := dv_int hdg
    obtain ⟨hb6, hR5⟩ := hR4 g rfl w4
    refine ⟨_, rfl, .int n, .int n, _, rfl, .tp (.int n), fun w3 => ?_, hb6⟩
    obtain ⟨hbad, hgood⟩ := hR5 w3
    obtain ⟨n', en, hn0, hn1⟩ := wi_int w3
    cases en
    obtain ⟨a, b, xs, rfl, ha, hbb, hxs⟩ := mach_of hm
    obtain ⟨bb, ks, e1, hkr, hbk, hk⟩ := rowAt hxs hrj
    subst hkr
    rw [List.getElem?_map] at hci
    obtain ⟨kc, hkc, rfl⟩ := Option.map_eq_some_iff.mp hci
    obtain ⟨ac, y, eac, hac, hy⟩ := chc_of (hk kc (List.mem_of_getElem? hkc))
    have hkl : ks.length ≤ 100 := by rw [List.length_map] at hrl; exact hrl
    have hik : i < ks.length := (List.getElem?_eq_some_iff.mp hkc).1
    have hrfi : (rf ks)[i]? = some (.ref kc.1) := by
      show (ks.map fun p => V.ref p.1)[i]? = _
      rw [List.getElem?_map, hkc]
      rfl
    have hac2 : H kc.1 = some (.tup [.int kc.2.1, y]) := by
      injection eac with eac
      rw [eac]
      exact hac
    refine ⟨_, rfl, a, _, 1, _, rfl, rfl, SqT.of ha, rfl, _, rfl, b, _, (j : Int), _, rfl, rfl, SqT.of hbb, atI_nat e1, bb, rf ks, rfl, .inr (SqT.of hbk), fun l hl => ?_⟩
    have s1 : Same H (upd H l (.lst (rf ks))) := same_laid hl
    have hpc : Prs kc.2.2 := hgp _ hmem _ (List.mem_of_getElem? hrj) kc.2 (List.mem_map.mpr ⟨kc, List.mem_of_getElem? hkc, rfl⟩)
    refine ⟨_, rfl, _, rfl, l, rf ks, (i : Int), _, rfl, rfl, SqL.of upd_same, atI_nat hrfi, _, rfl, _, rfl, _, kc.2, g, n, rfl, (hk kc (List.mem_of_getElem? hkc)).keep s1.tups, hpc, hn0, hn1, fun H2 v2 s2 hv2 => ?_⟩
    obtain ⟨t, y2, rfl, ht2, hy2⟩ := chc_of hv2
    have ix : ixN (rf ks).length ((i : Nat) : Int) = some i := by
      unfold ixN
      have : (rf ks).length = ks.length := List.length_map _
      rw [if_pos (by omega), if_pos (by omega)]
      rfl
    have hl2 := s2 _ _ (upd_same (H := H) (a := l) (o := .lst (rf ks)))
    refine ⟨_, rfl, _, rfl, l, rf ks, (i : Int), i, rfl, rfl, hl2, ix, ?_⟩
    have sr : Same H (upd H2 l (.lst ((rf ks).set i (.ref t)))) := fun q o e => by
      rw [upd_ne (ne_of_none e hl)]
      exact s2 _ _ (s1 _ _ e)
    have erf : (rf ks).set i (.ref t) = rf (ks.set i (t, withP kc.2 g n)) := by
      unfold rf
      rw [List.map_set]
    have tk : TupK H2 (upd H2 l (.lst ((rf ks).set i (.ref t)))) := tk_upd hl2 id
    have hkr2 : TC (upd H2 l (.lst ((rf ks).set i (.ref t)))) (ks.set i (t, withP kc.2 g n)) := fun q hq => by
      rcases List.mem_or_eq_of_mem_set hq with z | z
      · exact (hk q z).keep sr.tups
      · rw [z]
        exact hv2.keep tk
    have emap : (ks.set i (t, withP kc.2 g n)).map (·.2) = (ks.map (·.2)).set i (withP kc.2 g n) := by rw [List.map_set]
    rw [← emap] at hbad hgood
    refine tail_ok (K := K) (ks := ks.set i (t, withP kc.2 g n)) T sh de hpl hel sr hm hsm hjl (by rw [upd_same, erf]) hkr2 (by rw [List.length_set]; exact hkl) (fun q hq => ?_) rfl rfl rfl rfl rfl hbad hgood rfl
    rcases List.mem_or_eq_of_mem_set hq with z | z
    · exact hrc q.2 (List.mem_map.mpr ⟨q, z, rfl⟩)
    · rw [z]
      exact withP_len hpc
end
end T83

set_option Elab.async false
set_option linter.all false
set_option maxRecDepth 100000
set_option maxHeartbeats 2000000
namespace T83
open PySem PySem.Spec PyProof.Rows L2 RZ
theorem fm_erase : ∀ (ks : List KC) (i : Nat), ((List.range ks.length).filterMap fun t => if t = i then none else (ks[t]?).map fun q => dC q.2) = ((ks.map (·.2)).eraseIdx i).map dC
  | [], _ => rfl
  | k :: ks, 0 => by
    rw [List.length_cons, List.range_succ_eq_map, List.filterMap_cons, if_pos rfl, List.filterMap_map]
    show _ = (ks.map (·.2)).map dC
    rw [List.map_map]
    have e : ((fun t => if t = 0 then none else ((k :: ks)[t]?).map fun q => dC q.2) ∘ Nat.succ) = fun t => (ks[t]?).bind fun q => some (dC q.2) := by
      funext t
      show (if t + 1 = 0 then none else ((k :: ks)[t + 1]?).map fun q => dC q.2) = _
      rw [if_neg (by omega), List.getElem?_cons_succ]
      cases ks[t]? <;> rfl
    rw [e, range_fm (fun q : KC => some (dC q.2))]
    exact congrFun (List.filterMap_eq_map (f := fun q : KC => dC q.2)) _
  | k :: ks, i + 1 => by
    rw [List.length_cons, List.range_succ_eq_map, List.filterMap_cons, if_neg (by omega), List.filterMap_map]
    show (dC k.2) :: _ = (k.2 :: (ks.map (·.2)).eraseIdx i).map dC
    rw [List.map_cons, ← fm_erase ks i]
    congr 1
    congr 1
    funext t
    show (if t + 1 = i + 1 then none else ((k :: ks)[t + 1]?).map fun q => dC q.2) = _
    rw [List.getElem?_cons_succ]
    by_cases h : t = i
    · rw [if_pos h, if_pos (by omega)]
    · rw [if_neg h, if_neg (by omega)]
section
variable {P : Program} {w : World} {K : PySem.W.Frag} {mg : Str → Option Value} {base : Heap}
/-! ### less -/
abbrev nLess : List Str := ["self", "name", "place", "index", "machine", "row", "at", "choice"]
theorem scLess : FnScope nLess ["self", "name", "place", "index"] (defScope (inClass (top 100) 6)) := ⟨rfl, rfl, rfl, by decide +kernel, rfl, by decide +kernel, by decide +kernel⟩
def spLess (K : PySem.W.Frag) : Sp := fun vs H Q E => ∃ p dx lp lf an past cur fut es x d yp dp yi di, vs = [.ref p, x, yp, yi] ∧ Shf K H p dx lp lf an past cur fut ∧ DE H cur es ∧ past.length ≤ 1000 ∧ es.length ≤ 1000 ∧ EG es ∧ Dv H x d ∧ Dv H yp dp ∧ Dv H yi di ∧
  Sel K H es x d yp dp yi di E fun z _ m j r i c => Rowd K H p dx lp an past cur es z (setR m j (r.eraseIdx i)) Q E
theorem ok_less (F : Fx K mg) (E0 : Fe P K mg) (T : Fs K mg) (G1 : CalM P w K mg base (L2.CX P w) 3 "machine" ["self", "name"] (spMachine K)) (G2 : Cal P w K mg base (L2.CX P w) 3 "require_place" ["machine", "value"] (spRPlace K)) (G3 : Cal P w K mg base (L2.CX P w) 3 "require_index" ["machine", "place", "value"] (spRIndex K))
    (G5 : CalM P w K mg base CX0 1 "step" ["self", "machines"] (spStep K)) (G6 : Cal P w K mg base (L2.CX P w) 7 "with_choices" ["machine", "place", "row"] (spWithC K)) : CalM P w K mg base (L2.CX P w) 8 "less" ["self", "name", "place", "index"] (spLess K) := by
  refine calm_of T.less scLess (fun vs H Q E h => ?_) (fun _ _ _ _ _ _ us hl => match us, hl with | [_, _, _, _], _ => rfl) fun f cdv A outer s H vs Q E hr h => ⟨_, pss_cons (ps_set (i := 4) scLess.nd rfl (Or.inl rfl) (pe_calm T.cl G1 (hr.mono (by decide)) pass (pv 0) (pa_cons (pv 1) pa_nil)))
    (pss_cons (ps_expr (pe_cal G2 (hr.mono (by decide)) (by rfl) pass (pa_cons (pv 4) (pa_cons (pv 2) pa_nil))))
    (pss_cons (ps_expr (pe_cal G3 (hr.mono (by decide)) (by rfl) pass (pa_cons (pv 4) (pa_cons (pv 2) (pa_cons (pv 3) pa_nil)))))
    (pss_cons (ps_setLc (i := 5) (own := [("choice", 7), ("at", 6)]) (g := gTup K 2 (gCons (gName 6) (gCons (gName 7) gNil))) rfl scLess.nd rfl rfl (sw_true rfl rfl rfl (by decide +kernel)) (pi_enumA (by rfl) (F.b "enumerate" (by decide)) (pa_cons (pe_ix ix_tup (pe_ix ix_tup (pv 4) pe_int (fun _ _ => rfl)) (pv 2) (fun _ _ => rfl)) pa_nil)) (blkOk_by (N := nLess) (sc := defScope (inClass (top 100) 6)) (by decide +kernel))
        (fun _ _ _ _ _ => pg_tup rfl (pgs_cons (pg_name (i := 6) scLess.nd rfl (Or.inl rfl)) (pgs_cons (pg_name (i := 7) scLess.nd rfl (Or.inl rfl)) pgs_nil))) (fun _ _ _ _ _ => pts_one (pt_cmpR op_ne (pv 6) (pv 3) (nomark _))) (fun _ _ _ _ _ => pv 7))
    (pss_one (ps_expr (pe_calm T.cl G5 (hr.mono (by decide)) pass0 (pv 0) (pa_cons (pe_star (pe_fld (pv 0) rfl) (pv 1) (pe_cal G6 hr (by rfl) pass (pa_cons (pv 4) (pa_cons (pv 2) (pa_cons (pv 5) pa_nil))))) pa_nil))))))), ?_⟩
  · obtain ⟨p, dx, lp, lf, an, past, cur, fut, es, x, d, yp, dp, yi, di, rfl, _⟩ := h
    rfl
  · obtain ⟨p, dx, lp, lf, an, past, cur, fut, es, x, d, yp, dp, yi, di, rfl, sh, de, hpl, hel, hg, hd, hdp, hdi, hb1, hR⟩ := h
    refine ⟨_, rfl, p, dx, _, rfl, sh.at_, rfl, _, rfl, p, dx, cur, lp, lf, an, es, x, d, rfl, sh.at_, de, hd, fun z m v ez ev => ?_, hb1⟩
    obtain ⟨hb2, hR1⟩ := hR z v m ez ev
    clear hR
    subst ez
    obtain rfl := dv_str hd
    have hmem := getA_mem ev
    obtain ⟨hsm, hln⟩ := hg _ hmem
    have hm : Tp H v (dM m) := (de.ok _ hmem).2
    have hsg := hsm.sg
    refine ⟨_, rfl, _, rfl, v, m, yp, dp, rfl, hm, hsg, hdp, fun w1 => ?_, hb2⟩
    obtain ⟨jj, rfl, hj0, hj1⟩ := wi_int w1
    obtain ⟨j, rfl⟩ := Int.eq_ofNat_of_zero_le hj0
    have hjl : j < m.2.length := by
      have : m.2.length = m.1.length := hln
      omega
    obtain ⟨hb3, hR2⟩ := hR1 j _ rfl (List.getElem?_eq_getElem hjl)
    have hrj := List.getElem?_eq_getElem hjl
    generalize m.2[j] = r at hb3 hR2 hrj
    clear hR1
    obtain rfl := dv_int hdp
    obtain ⟨hrl, hrc⟩ := hsm.row r (List.mem_of_getElem? hrj)
    refine ⟨_, rfl, _, rfl, _, rfl, v, m, j, r, yi, di, rfl, hm, hrj, by omega, hdi, fun w2 => ?_, hb3⟩
    obtain ⟨ii, rfl, hi0, hi1⟩ := wi_int w2
    obtain ⟨i, rfl⟩ := Int.eq_ofNat_of_zero_le hi0
    have hil : i < r.length := by omega
    obtain ⟨hbad, hgood⟩ := hR2 i _ rfl (List.getElem?_eq_getElem hil)
    clear hR2
    have hci := List.getElem?_eq_getElem hil
    obtain rfl := dv_int hdi
    obtain ⟨a, b, xs, rfl, ha, hbb, hxs⟩ := mach_of hm
    obtain ⟨bb, ks, e1, hkr, hbk, hk⟩ := rowAt hxs hrj
    subst hkr
    refine ⟨_, rfl, a, _, 1, _, rfl, rfl, SqT.of ha, rfl, _, rfl, b, _, (j : Int), _, rfl, rfl, SqT.of hbb, atI_nat e1, bb, rf ks, rfl, .inr ⟨SqT.of hbk, fun l hl => ?_⟩⟩
    have krl : (rf ks).length = ks.length := List.length_map _
    have hkl : ks.length ≤ 100 := by rw [List.length_map] at hrl; exact hrl
    refine lc_dat (n := (rf ks).length) walk_enumT (fun t => if t = i then none else (ks[t]?).map fun q => dC q.2) (fun H' s => SqT.of (s _ _ hbk)) (fun t H1 x H2 ht hY => ?_) hl (by rw [krl, sizeLine_eq]; omega) (fun t x H1 H2 kk ht hY sm1 sm2 hk1 hk2 => ?_) (fun H2 ys hys hL s2 => ?_)
    · obtain ⟨T0, x1, x2, rfl, hT, rfl, _⟩ := hY
      exact same_laid hT
    · obtain ⟨T0, x1, x2, rfl, hT, rfl, q1, q2⟩ := hY
      cases q1
      have q2' : (ks.map fun p => V.ref p.1)[t]? = some x2 := q2
      rw [List.getElem?_map] at q2'
      obtain ⟨kc, hkc, rfl⟩ := Option.map_eq_some_iff.mp q2'
      rw [hkc] at hk1 hk2
      refine ⟨T0, _, rfl, SqT.of upd_same, rfl, _, _, rfl, _, _, rfl, rfl, rfl, _, rfl, _, rfl, rfl, ?_⟩
      refine ⟨_, rfl, ?_⟩
      by_cases hti : t = i
      · have e : (!decide (V.int ((t : Nat) : Int) = V.int ((i : Nat) : Int))) = false := by rw [decide_eq_true (by rw [hti])]; rfl
        rw [e]
        exact iteF (hk2 (if_pos hti) _ (Same.refl _))
      · have e : (!decide (V.int ((t : Nat) : Int) = V.int ((i : Nat) : Int))) = true := by rw [decide_eq_false (fun q => hti (by injection q with q; omega))]; rfl
        rw [e]
        exact iteT ⟨_, rfl, hk1 _ _ _ (if_neg hti) (Same.refl _) ((hk kc (List.mem_of_getElem? hkc)).keep sm2.tups)⟩
    · rw [krl, fm_erase] at hys
      obtain ⟨ks2, ek2, rfl, hk2⟩ := row_of hys
      rw [← ek2] at hbad hgood
      have hkl2 : ks2.length ≤ ks.length := by
        have := congrArg List.length ek2
        rw [List.length_map] at this
        have h2 := List.length_eraseIdx_le (ks.map (·.2)) i
        rw [List.length_map] at h2
        omega
      refine tail_ok (K := K) (ks := ks2) T sh de hpl hel s2 hm hsm hjl hL hk2 (by omega) (fun q hq => ?_) rfl rfl rfl rfl rfl hbad hgood rfl
      have hqm : q.2 ∈ (ks.map (·.2)).eraseIdx i := by
        rw [← ek2]
        exact List.mem_map.mpr ⟨q, hq, rfl⟩
      exact hrc q.2 (List.mem_of_mem_eraseIdx hqm)
end
end T83

set_option Elab.async false
set_option linter.all false
set_option maxRecDepth 100000
set_option maxHeartbeats 2000000
namespace T83
open PySem PySem.Spec PyProof.Rows L2
section
variable {P : Program} {w : World} {K : PySem.W.Frag} {mg : Str → Option Value} {base : Heap}
/-! ### _law_common -/
abbrev sCommon : Stmt := top 106
theorem scCommon : FnScope ["one", "other"] ["one", "other"] (defScope sCommon) := ⟨rfl, rfl, rfl, by decide +kernel, rfl, by decide +kernel, by decide +kernel⟩
def spCommon : Sp := fun vs H Q _ => ∃ a b : Int, vs = [.int a, .int b] ∧ Q (.int ((Nat.gcd a.natAbs b.natAbs : Nat) : Int)) H
theorem abs_eq (a : Int) : (if a < 0 then -a else a) = ((a.natAbs : Nat) : Int) := by
  split <;> omega
theorem ok_common (F : Fx K mg) (D : At K mg "_law_common" sCommon) : Cal P w K mg base CX0 1 "_law_common" ["one", "other"] spCommon := by
  refine cal_of D scCommon (fun vs H Q E h => ?_) (fun _ _ _ _ _ _ us hl => match us, hl with | [_, _], _ => rfl) fun f cdv A outer s H vs Q E hr h => ⟨_, PSs.nox (pss_cons (ps_par (by rfl) scCommon.nd (i := 0) (j := 1) rfl rfl (by decide) rfl rfl (pa_cons (pe_callB call_abs (by rfl) (F.b "abs" (by decide)) (by decide +kernel) (pa_cons (pv 0) pa_nil)) (pa_cons (pe_callB call_abs (by rfl) (F.b "abs" (by decide)) (by decide +kernel) (pa_cons (pv 1) pa_nil)) pa_nil)) (by rfl))
    (pss_cons (ps_while PassesOwn.never (pt_cmpR op_gt (pv 1) pe_int (nomark _)) (pss_one (ps_par (by rfl) scCommon.nd (i := 0) (j := 1) rfl rfl (by decide) rfl rfl (pa_cons (pv 1) (pa_cons (pe_op op_modN (pe_callTy call_int1 (by rfl) (F.b "int" (by decide)) (by decide +kernel) (pa_cons (pv 0) pa_nil)) (pv 1)) pa_nil)) (by rfl))))
    (pss_one (ps_ret (pv 0))))), ?_⟩
  · obtain ⟨a, b, rfl, _⟩ := h
    rfl
  · obtain ⟨a, b, rfl, hq⟩ := h
    refine ⟨_, rfl, _, rfl, _, rfl, _, rfl, _, _, rfl, ?_⟩
    rw [abs_eq a, abs_eq b]
    refine while_by (fun σ H' => H' = H ∧ ∃ x y : Nat, σ = [some (.int (x : Int)), some (.int (y : Int))] ∧ Nat.gcd x y = Nat.gcd a.natAbs b.natAbs) (fun σ _ => match σ with | [_, some (.int y)] => y.natAbs | _ => 0) ⟨rfl, a.natAbs, b.natAbs, rfl, rfl⟩ (fun σ H' hP => ?_) (fun σ H' Q Q' hQ h => ?_)
    · obtain ⟨rfl, x, y, rfl, hg⟩ := hP
      refine ⟨_, rfl, _, _, rfl, rfl, _, rfl, ?_⟩
      by_cases hy : (0 : Int) < (y : Int)
      · rw [decide_eq_true hy]
        refine iteT ⟨_, rfl, _, rfl, .inl ⟨_, rfl, _, rfl, _, _, rfl, rfl, (by omega : (y : Int) ≠ 0), _, _, rfl, ⟨rfl, y, x % y, ?_, ?_⟩, ?_⟩⟩
        · show [some (V.int (y : Int)), some (V.int ((x : Int).fmod (y : Int)))] = _
          rw [Int.fmod_eq_emod_of_nonneg (x : Int) (b := (y : Int)) (by omega)]
          rfl
        · rw [← hg, Nat.gcd_comm x y, Nat.gcd_rec y x, Nat.gcd_comm]
        · show ((x : Int).fmod (y : Int)).natAbs < ((y : Nat) : Int).natAbs
          rw [Int.fmod_eq_emod_of_nonneg (x : Int) (b := (y : Int)) (by omega)]
          have := Nat.mod_lt x (y := y) (by omega)
          omega
      · rw [decide_eq_false hy]
        refine iteF ⟨_, rfl, ?_⟩
        have h0 : y = 0 := by omega
        subst h0
        rw [Nat.gcd_zero_right] at hg
        rw [← hg] at hq
        exact hq
    · obtain ⟨v, hv, x, y, e1, e2, k, e3, h⟩ := h
      exact ⟨v, hv, x, y, e1, e2, k, e3, hQ _ _ h⟩
/-! ### _law_is_whole -/
abbrev sLWhole : Stmt := top 109
theorem scLWhole : FnScope ["value", "low", "high"] ["value", "low", "high"] (defScope sLWhole) := ⟨rfl, rfl, rfl, by decide +kernel, rfl, by decide +kernel, by decide +kernel⟩
/-- from a on -/
def wf (a : Int) : PyData → Bool
  | .int i => decide (a ≤ i)
  | _ => false
def spLWhole : Sp := fun vs H Q _ => ∃ x d a h, vs = [x, .int a, h] ∧ Dv H x d ∧ ((∃ b, h = .int b ∧ Q (.bl (wi a b d)) H) ∨ (h = .non ∧ Q (.bl (wf a d)) H))
theorem ok_lwhole (F : Fx K mg) (D : At K mg "_law_is_whole" sLWhole) : Cal P w K mg base CX0 1 "_law_is_whole" ["value", "low", "high"] spLWhole := by
  refine cal_of D scLWhole (fun vs H Q E h => ?_) (fun _ _ _ _ _ _ us hl => match us, hl with | [_, _, _], _ => rfl) fun f cdv A outer s H vs Q E hr h => ⟨_, PSs.nox (pss_cons (ps_if (pw_or (pt_not (pt_val (pe_isi (T := "int") (F.b "isinstance" (by decide)) (F.b "int" (by decide)) (pv 0)))) (pw_or1 (pt_val (pe_isi (T := "bool") (F.b "isinstance" (by decide)) (F.b "bool" (by decide)) (pv 0))))).pt (pss_one (ps_ret pe_bl)) pss_nil)
    (pss_one (ps_ret (pe_and (pe_or (pe_cmpR op_isN (pv 1) pe_non (nomark _)) (pe_one (pe_cmpR op_ge (pv 0) (pv 1) (nomark _)))) (pe_one (pe_or (pe_cmpR op_isN (pv 2) pe_non (nomark _)) (pe_one (pe_cmpR op_le (pv 0) (pv 2) (nomark _)))))))) ), ?_⟩
  · obtain ⟨x, d, a, h, rfl, _⟩ := h
    rfl
  · obtain ⟨x, d, a, hh, rfl, hd, hq⟩ := h
    have no : isI d = false → Q (.bl false) H := fun e => by
      have e1 : ∀ b, wi a b d = false := fun b => by cases d <;> first | rfl | cases e
      have e2 : wf a d = false := by cases d <;> first | rfl | cases e
      rcases hq with ⟨b, _, hq⟩ | ⟨_, hq⟩
      · rw [e1] at hq
        exact hq
      · rw [e2] at hq
        exact hq
    refine ⟨_, rfl, x, .ty "int", _, _, _, rfl, .ty _, hd.ty, kit_int d, _, rfl, ?_⟩
    have e := isW_eq d
    cases h1 : (isI d || isB d) with
    | false =>
      rw [h1] at e
      exact iteT (iteT (no e.symm))
    | true =>
      rw [h1] at e
      refine iteF ⟨_, rfl, x, .ty "bool", _, _, _, rfl, .ty _, hd.ty, kit_bool d, _, rfl, ?_⟩
      cases h2 : isB d with
      | true =>
        rw [h2] at e
        exact iteT (no e.symm)
      | false =>
        rw [h2] at e
        obtain ⟨i, rfl, rfl⟩ := isI_of hd e.symm
        refine iteF ⟨_, rfl, rfl, _, rfl, iteF ⟨_, rfl, _, rfl, _, _, rfl, rfl, _, rfl, ?_⟩⟩
        rcases hq with ⟨b, rfl, hq⟩ | ⟨rfl, hq⟩
        · have e2 : wi a b (.int i) = (decide (a ≤ i) && decide (i ≤ b)) := rfl
          rw [e2] at hq
          cases c1 : decide (a ≤ i) with
          | false =>
            rw [c1] at hq
            exact iteF hq
          | true =>
            rw [c1] at hq
            exact iteT ⟨_, rfl, rfl, _, rfl, iteF ⟨_, rfl, _, rfl, _, _, rfl, rfl, hq⟩⟩
        · have e2 : wf a (.int i) = decide (a ≤ i) := rfl
          rw [e2] at hq
          cases c1 : decide (a ≤ i) with
          | false =>
            rw [c1] at hq
            exact iteF hq
          | true =>
            rw [c1] at hq
            exact iteT ⟨_, rfl, rfl, _, rfl, iteT hq⟩
end
end T83

set_option Elab.async false
set_option linter.all false
set_option maxRecDepth 100000
set_option maxHeartbeats 2000000
namespace T83
open PySem PySem.Spec PyProof.Rows L2 RZ
/-! ### a drawn dict of parts -/
structure DPs (size : Int) (D : Prt) : Prop where
  nd : (D.map (·.1)).Nodup
  at_ : ∀ q ∈ D, (0 ≤ q.1 ∧ q.1 ≤ size - 1) ∧ 1 ≤ q.2 ∧ q.2 ≤ 10 ^ 6
theorem DPs.put {size : Int} {D : Prt} (h : DPs size D) {k v : Int} (h1 : 0 ≤ k ∧ k ≤ size - 1) (h2 : 1 ≤ v ∧ v ≤ 10 ^ 6) : DPs size (putA D k v) :=
  ⟨putA_nodup h.nd, fun q hq => by
    rcases mem_put hq with z | z
    · exact h.at_ q z
    · rw [z]
      exact ⟨h1, h2⟩⟩
/-- by the ascending keys -/
def allD (D : Prt) : Prt := (keysD D).map fun k => (k, lookD D k)
theorem lookD_of {D : Prt} (nd : (D.map (·.1)).Nodup) {q : Int × Int} (h : q ∈ D) : lookD D q.1 = q.2 := by
  unfold lookD
  rw [getA_of nd h]
  rfl
theorem lookD_mem {D : Prt} {k : Int} (h : k ∈ D.map (·.1)) : (k, lookD D k) ∈ D := by
  cases e : getA D k with
  | none => exact absurd h (getA_none.mp e)
  | some v =>
    unfold lookD
    rw [e]
    exact getA_mem e
theorem allD_perm {D : Prt} (nd : (D.map (·.1)).Nodup) : (allD D).Perm D := by
  have h1 : (allD D).Perm ((D.map (·.1)).map fun k => (k, lookD D k)) := (keysD_perm D).map _
  refine h1.trans (List.Perm.of_eq ?_)
  rw [List.map_map]
  have : ∀ q ∈ D, ((fun k => (k, lookD D k)) ∘ fun q : Int × Int => q.1) q = q := fun q hq => by
    show (q.1, lookD D q.1) = q
    rw [lookD_of nd hq]
  exact (List.map_congr_left this).trans (List.map_id' _)
theorem gcd_swap (g a b : Nat) : Nat.gcd (Nat.gcd g a) b = Nat.gcd (Nat.gcd g b) a := by
  rw [Nat.gcd_assoc, Nat.gcd_comm a b, ← Nat.gcd_assoc]
theorem gcdL_perm {ps qs : Prt} (h : ps.Perm qs) : gcdL ps = gcdL qs := by
  unfold gcdL
  generalize (0 : Nat) = g
  induction h generalizing g with
  | nil => rfl
  | cons x _ ih => exact ih _
  | swap x y l =>
    show l.foldl _ (Nat.gcd (Nat.gcd g y.2.natAbs) x.2.natAbs) = l.foldl _ (Nat.gcd (Nat.gcd g x.2.natAbs) y.2.natAbs)
    rw [gcd_swap]
  | trans _ _ i1 i2 => exact (i1 g).trans (i2 g)
theorem gcd_div : ∀ (ps : Prt) (g d : Nat), 0 < d → d ∣ g → (∀ q ∈ ps, d ∣ q.2.natAbs ∧ 0 ≤ q.2) → (overG d ps).foldl (fun g q => Nat.gcd g q.2.natAbs) (g / d) = (ps.foldl (fun g q => Nat.gcd g q.2.natAbs) g) / d
  | [], g, d, _, _, _ => rfl
  | p :: ps, g, d, hd, hg, h => by
    obtain ⟨h1, h2⟩ := h p List.mem_cons_self
    have e : (p.2.fdiv (d : Int)).natAbs = p.2.natAbs / d := by
      rw [Int.fdiv_eq_ediv_of_nonneg p.2 (b := (d : Int)) (by omega)]
      obtain ⟨n, hn⟩ := Int.eq_ofNat_of_zero_le h2
      rw [hn]
      rfl
    show (overG d ps).foldl _ (Nat.gcd (g / d) (p.2.fdiv (d : Int)).natAbs) = (ps.foldl _ (Nat.gcd g p.2.natAbs)) / d
    rw [e, Nat.gcd_div hg h1]
    exact gcd_div ps (Nat.gcd g p.2.natAbs) d hd (Nat.dvd_gcd hg h1) fun q hq => h q (List.mem_cons_of_mem _ hq)
theorem gcdL_over {ps : Prt} (hp : 0 < gcdL ps) (h : ∀ q ∈ ps, 0 ≤ q.2) : gcdL (overG (gcdL ps) ps) = 1 := by
  have := gcd_div ps 0 (gcdL ps) hp (Nat.dvd_zero _) fun q hq => ⟨gcdL_dvd hq, h q hq⟩
  rw [Nat.zero_div] at this
  unfold gcdL at this ⊢
  rw [this]
  exact Nat.div_self hp
theorem gcdL_pos {ps : Prt} (hne : ps ≠ []) (h : ∀ q ∈ ps, 0 < q.2) : 0 < gcdL ps := by
  cases ps with
  | nil => exact absurd rfl hne
  | cons p ps =>
    have h1 := gcdL_dvd (ps := p :: ps) (q := p) List.mem_cons_self
    have h2 := h p List.mem_cons_self
    refine Nat.pos_of_ne_zero fun z => ?_
    rw [z] at h1
    have := Nat.eq_zero_of_zero_dvd h1
    omega
theorem asc_of_pw {l : List Int} (h : l.Pairwise (· < ·)) : ascB (fun i j => decide (i < j)) l = true := by
  induction l with
  | nil => rfl
  | cons a l ih =>
    cases l with
    | nil => rfl
    | cons b r =>
      obtain ⟨h1, h2⟩ := List.pairwise_cons.mp h
      show (decide (a < b) && ascB _ (b :: r)) = true
      rw [ih h2, decide_eq_true (h1 b List.mem_cons_self)]
      rfl
theorem keysD_lt {D : Prt} (nd : (D.map (·.1)).Nodup) : (keysD D).Pairwise (· < ·) := by
  have h1 := keysD_sorted D
  have h2 : (keysD D).Nodup := (keysD_perm D).nodup_iff.mpr nd
  exact (h1.and h2).imp fun h => by omega
/-- such parts are a choice's -/
theorem over_ok {size : Int} {D : Prt} (h : DPs size D) (hne : D ≠ []) : okPr size (overG (gcdL D) (allD D)) = true := by
  have hp := allD_perm h.nd
  have hne2 : allD D ≠ [] := fun z => by
    rw [z] at hp
    exact hne (List.perm_nil.mp hp.symm)
  have hg : gcdL D = gcdL (allD D) := gcdL_perm hp.symm
  rw [hg]
  have hat : ∀ q ∈ allD D, (0 ≤ q.1 ∧ q.1 ≤ size - 1) ∧ 1 ≤ q.2 ∧ q.2 ≤ 10 ^ 6 := fun q hq => h.at_ q (hp.mem_iff.mp hq)
  have hpos : 0 < gcdL (allD D) := gcdL_pos hne2 fun q hq => by have := hat q hq; omega
  unfold okPr
  rw [Bool.and_eq_true, Bool.and_eq_true, Bool.and_eq_true]
  refine ⟨?_, ?_, ?_, ?_⟩
  · rw [Bool.not_eq_true', decide_eq_false_iff_not]
    intro z
    exact hne2 (List.map_eq_nil_iff.mp z)
  · refine List.all_eq_true.mpr fun q hq => ?_
    obtain ⟨r, hr, rfl⟩ := List.mem_map.mp hq
    obtain ⟨h1, h2, h3⟩ := hat r hr
    have hd := gcdL_dvd hr
    have e : r.2.fdiv ((gcdL (allD D) : Nat) : Int) = ((r.2.natAbs / gcdL (allD D) : Nat) : Int) := by
      rw [Int.fdiv_eq_ediv_of_nonneg r.2 (b := ((gcdL (allD D) : Nat) : Int)) (by omega)]
      obtain ⟨n, hn⟩ := Int.eq_ofNat_of_zero_le (show 0 ≤ r.2 by omega)
      rw [hn]
      rfl
    have h4 : 1 ≤ r.2.natAbs / gcdL (allD D) := (Nat.one_le_div_iff hpos).mpr (Nat.le_of_dvd (by omega) hd)
    have h5 : r.2.natAbs / gcdL (allD D) ≤ r.2.natAbs := Nat.div_le_self _ _
    show ((decide (0 ≤ r.1) && decide (r.1 ≤ size - 1)) && (decide (1 ≤ r.2.fdiv ((gcdL (allD D) : Nat) : Int)) && decide (r.2.fdiv ((gcdL (allD D) : Nat) : Int) ≤ 10 ^ 6))) = true
    rw [e, decide_eq_true h1.1, decide_eq_true h1.2, decide_eq_true (by omega), decide_eq_true (by omega)]
    rfl
  · have e : (overG (gcdL (allD D)) (allD D)).map (·.1) = keysD D := by
      unfold overG allD
      rw [List.map_map, List.map_map]
      exact (List.map_congr_left fun k _ => rfl).trans (List.map_id' _)
    rw [e]
    exact asc_of_pw (keysD_lt h.nd)
  · rw [decide_eq_true_eq]
    exact gcdL_over hpos fun q hq => by have := hat q hq; omega
end T83

set_option Elab.async false
set_option linter.all false
set_option maxRecDepth 100000
set_option maxHeartbeats 2000000
namespace T83
open PySem PySem.Spec PyProof.Rows L2 RZ
theorem dget_of {H : Hp} {a : Addr} {kvs : List (Key × V)} {k : Key} (e : Rd H a (.dK kvs)) : DGet H a (kV k) (valV kvs k) := .inl ⟨kvs, k, e, rfl, rfl⟩
section
variable {P : Program} {w : World} {K : PySem.W.Frag} {mg : Str → Option Value} {base : Heap}
/-! ### _law_parts -/
abbrev sLParts : Stmt := top 107
abbrev nLParts : List Str := ["bowl", "size", "found", "turn", "common", "place"]
theorem scLParts : FnScope nLParts ["bowl", "size"] (defScope sLParts) := ⟨rfl, rfl, rfl, by decide +kernel, rfl, by decide +kernel, by decide +kernel⟩
def spLParts : Sp := fun vs H Q _ => ∃ (l : Addr) (size : Nat), vs = [.ref l, .int (size : Int)] ∧ 0 < size ∧ size ≤ 1000 ∧ Bowl H l ∧ ∀ H' v ps, Kp [l] H H' → Bowl H' l → Tp H' v (dPr ps) → okPr size ps = true → ps.length ≤ 3 → Q v H'
theorem ok_lparts (F : Fx K mg) (D : At K mg "_law_parts" sLParts) (G1 : Cal P w K mg base CX0 1 "_law_scoop" ["bowl", "total"] spScoop) (G2 : Cal P w K mg base CX0 2 "_law_one_of" ["bowl", "items"] spOneOf) (G3 : Cal P w K mg base CX0 1 "_law_common" ["one", "other"] spCommon) : Cal P w K mg base CX0 3 "_law_parts" ["bowl", "size"] spLParts := by
  refine cal_of D scLParts (fun vs H Q E h => ?_) (fun _ _ _ _ _ _ us hl => match us, hl with | [_, _], _ => rfl) fun f cdv A outer s H vs Q E hr h => ⟨_, PSs.nox (pss_cons (ps_set (i := 2) scLParts.nd rfl (Or.inr rfl) pe_dnewK)
    (pss_cons (ps_for PassesOwn.never rfl (pi_range1 rfl (F.b "range" (by decide)) (pa_cons (pe_op op_add pe_int (pe_cal G1 (hr.mono (by decide)) (by rfl) pass0 (pa_cons (pv 0) (pa_cons pe_int pa_nil)))) pa_nil)) (pg_name (i := 3) scLParts.nd rfl (Or.inl rfl))
      (pss_one (ps_dput (hu_of hr) (pv 2) (pe_cal G1 (hr.mono (by decide)) (by rfl) pass0 (pa_cons (pv 0) (pa_cons (pv 1) pa_nil))) (pe_op op_add pe_int (pe_cal G1 (hr.mono (by decide)) (by rfl) pass0 (pa_cons (pv 0) (pa_cons (pe_cal G2 hr (by rfl) pass0 (pa_cons (pv 0) (pa_cons (pe_lst (pa_cons pe_int (pa_cons pe_int (pa_cons pe_int pa_nil)))) pa_nil))) pa_nil)))) rfl)))
    (pss_cons (ps_set (i := 4) scLParts.nd rfl (Or.inr rfl) pe_int)
    (pss_cons (ps_lock (ps_for PassesOwn.never rfl (pi_keys (pv 2)) (pg_name (i := 5) scLParts.nd rfl (Or.inl rfl)) (pss_one (ps_set (i := 4) scLParts.nd rfl (Or.inr rfl) (pe_cal G3 (hr.mono (by decide)) (by rfl) pass0 (pa_cons (pv 4) (pa_cons (pe_dget (hu_of hr) (pv 2) (pv 5) (fun _ _ => rfl)) pa_nil)))))))
    (pss_one (ps_ret (pe_callTy call_tupleF (by rfl) (F.b "tuple" (by decide)) (by decide +kernel) (pa_cons (pe_lc (own := [("place", 5)]) (g := gName 5) (tt := tYes) rfl scLParts.nd (pi_list (pe_callB (call_sortedDI rfl) (by rfl) (F.b "sorted" (by decide)) (by decide +kernel) (pa_cons (pv 2) pa_nil))) (blkOk_by (N := nLParts) (sc := defScope sLParts) (by decide +kernel))
        (fun _ _ _ _ _ => pg_name (i := 5) scLParts.nd rfl (Or.inl rfl)) (fun _ _ _ _ _ => pts_nil) (fun _ _ _ _ _ => pe_tup (pa_cons (pv 5) (pa_cons (pe_op op_fdivN (pe_dget (hu_of hr) (pv 2) (pv 5) (fun _ _ => rfl)) (pv 4)) pa_nil)))) pa_nil)))))))), ?_⟩
  · obtain ⟨l, size, rfl, _⟩ := h
    rfl
  · obtain ⟨l, size, rfl, hs0, hs1, hB, hq⟩ := h
    refine fun d hd => ?_
    have hdl : d ≠ l := fun z => hB.ne (z ▸ hd)
    have hB0 : Bowl (upd H d (.dK [])) l := hB.same (same_laid hd)
    refine ⟨_, rfl, l, 3, rfl, by decide, by decide, hB0, fun r H1 hr1 k1 hB1 => ⟨_, _, rfl, rfl, ?_⟩⟩
    have hd1 : H1 d = some (.dK (eD [])) := k1 _ _ upd_same (by simpa using hdl)
    have kp1 : Kp [l] H H1 := fun b o e n => k1 b o (same_laid hd b o e) n
    refine ⟨_, rfl, by omega, by omega, ?_⟩
    refine for_range (lo := 0) (n := (1 + ((r : Nat) : Int)).toNat) (fun t σ H' => (∃ u3 u5, σ = [some (.ref l), some (.int (size : Int)), some (.ref d), u3, none, u5]) ∧ Kp [l] H H' ∧ Bowl H' l ∧ ∃ D : Prt, H' d = some (.dK (eD D)) ∧ DPs size D ∧ D.length ≤ t ∧ (0 < t → D ≠ [])) ⟨⟨none, none, rfl⟩, kp1, hB1, [], hd1, ⟨by simp, fun q hq => by cases hq⟩, Nat.le_refl _, fun z => absurd z (Nat.lt_irrefl _)⟩ (fun t σ H2 ht hP => ?_) (fun σ H2 hP => ?_)
    · obtain ⟨⟨u3, u5, rfl⟩, kp, hB2, D, hD, hDP, hDl, hDn⟩ := hP
      refine ⟨_, rfl, _, rfl, by show 3 ≤ sizeLine; rw [sizeLine_eq]; decide, fun a ha => ?_⟩
      have hal : a ≠ l := fun z => hB2.ne (z ▸ ha)
      have s3 : Same H2 (upd H2 a (.lst [.int 1, .int 2, .int 3])) := same_laid ha
      refine ⟨l, _, rfl, hB2.same s3, .inr ⟨a, [.int 1, .int 2, .int 3], rfl, upd_same, hal, by decide, by decide, fun z H3 hz k3 hB3 => ?_⟩⟩
      obtain ⟨w0, rfl, hw1, hw2⟩ : ∃ w0 : Nat, z = .int (w0 : Int) ∧ 1 ≤ w0 ∧ w0 ≤ 3 := by
        rcases List.mem_cons.mp hz with e | hz
        · exact ⟨1, e, by decide, by decide⟩
        rcases List.mem_cons.mp hz with e | hz
        · exact ⟨2, e, by decide, by decide⟩
        exact ⟨3, List.mem_singleton.mp hz, by decide, by decide⟩
      refine ⟨l, w0, rfl, by omega, by omega, hB3, fun r2 H4 hr2 k4 hB4 => ⟨_, _, rfl, rfl, _, rfl, _, rfl, _, rfl, l, size, rfl, hs0, by omega, hB4, fun ky H5 hky k5 hB5 => ?_⟩⟩
      have hD5 : H5 d = some (.dK (eD D)) := k5 _ _ (k4 _ _ (k3 _ _ (s3 _ _ hD) (by simpa using hdl)) (by simpa using hdl)) (by simpa using hdl)
      refine ⟨d, _, rfl, DPut.k (k := Sum.inl (ky : Int)) hD5 (by rw [List.length_map, sizeLine_eq]; omega), ?_⟩
      rw [eD_put]
      refine ⟨⟨_, _, rfl⟩, ?_, ?_, putA D (ky : Int) (1 + (r2 : Int)), upd_same, hDP.put (by omega) (by omega), ?_, fun _ z => ?_⟩
      · refine Kp.put ?_ (.inr hd)
        exact fun b o e n => k5 b o (k4 b o (k3 b o (s3 b o (kp b o e n)) n) n) n
      · obtain ⟨b0, b1, b2, hb⟩ := hB5
        exact ⟨b0, b1, b2, by rw [upd_ne (Ne.symm hdl)]; exact hb⟩
      · have := putA_len (d := D) (g := (ky : Int)) (n := 1 + (r2 : Int))
        omega
      · have := congrArg (List.map (·.1)) z
        rw [putA_keys] at this
        split at this
        · rename_i hm
          rw [this] at hm
          cases hm
        · simp at this
    · obtain ⟨⟨u3, u5, rfl⟩, kp, hB2, D, hD, hDP, hDl, hDn⟩ := hP
      have hrn : (1 + ((r : Nat) : Int)).toNat = 1 + r := by omega
      rw [hrn] at hDl hDn
      have hne := hDn (by omega)
      have hdl3 : D.length ≤ 3 := by omega
      have edl : (eD D).length = D.length := List.length_map _
      refine ⟨d, .dK (eD D), hD, True.intro, fun od => ?_⟩
      have hdo : (upd H2 d (.frz od (.dK (eD D)))) d = some (.frz od (.dK (eD D))) := upd_same
      refine ⟨_, rfl, d, od, rfl, .inl ⟨eD D, hdo, ?_⟩⟩
      refine for_it (n := (eD D).length) walk_keys (fun i σ H' => (∃ u5, σ = [some (.ref l), some (.int (size : Int)), some (.ref d), u3, some (.int ((gcdL (D.take i) : Nat) : Int)), u5]) ∧ H' = upd H2 d (.frz od (.dK (eD D)))) ⟨⟨u5, rfl⟩, rfl⟩ (fun i σ H' _ h => by rw [h.2]; exact hdo) (fun i x σ H3 H4 hi hP hY => ?_) (fun σ H3 hP => ?_)
      · obtain ⟨⟨u5, rfl⟩, rfl⟩ := hP
        obtain ⟨rfl, k, v, hkv, rfl⟩ := hY
        rw [edl] at hi
        have hdi : D[i]? = some D[i] := List.getElem?_eq_getElem hi
        rw [List.getElem?_map, hdi] at hkv
        obtain ⟨rfl, rfl⟩ : (Sum.inl D[i].1 : Key) = k ∧ V.int D[i].2 = v := by
          have := Option.some.inj hkv
          exact ⟨congrArg Prod.fst this, congrArg Prod.snd this⟩
        have hg := eD_get (List.mem_map.mpr ⟨_, List.getElem_mem hi, rfl⟩ : D[i].1 ∈ D.map (·.1))
        rw [lookD_of hDP.nd (List.getElem_mem hi)] at hg
        have hdg : DGet (upd H2 d (.frz od (.dK (eD D)))) d (kV (Sum.inl D[i].1)) (some (.int D[i].2)) := by
          have := dget_of (k := Sum.inl D[i].1) (.inr ⟨od, hdo⟩ : Rd (upd H2 d (.frz od (.dK (eD D)))) d (.dK (eD D)))
          rw [hg] at this
          exact this
        refine ⟨_, rfl, _, rfl, _, rfl, d, _, rfl, hdg, _, _, rfl, ⟨some (.int D[i].1), ?_⟩, rfl⟩
        rw [gcdL_snoc hdi]
        rfl
      · obtain ⟨⟨u5, rfl⟩, rfl⟩ := hP
        rw [edl, List.take_length]
        refine ⟨hdo, ?_⟩
        rw [upd_upd']
        have s3 : Same H2 (upd H2 d (.dK (eD D))) := fun b o e => by
          by_cases hb : b = d
          · rw [hb, upd_same]
            rw [hb, hD] at e
            exact e
          · rw [upd_ne hb]
            exact e
        have hD3 : (upd H2 d (.dK (eD D))) d = some (.dK (eD D)) := upd_same
        generalize upd H2 d (.dK (eD D)) = H3 at s3 hD3
        refine ⟨_, rfl, d, eD D, D.map (·.1), rfl, .inl hD3, by simp [eD, Function.comp_def], by rw [List.length_map]; omega, fun ys L hyp hys hL => ?_⟩
        have hyk := keysD_of hyp hys
        subst hyk
        have s4 : Same H3 (upd H3 L (.lst ((keysD D).map V.int))) := same_laid hL
        refine ⟨L, rfl, ⟨_, SqL.of upd_same⟩, fun N hN => ?_⟩
        have kl : ((keysD D).map V.int).length = (keysD D).length := List.length_map _
        have klD : (keysD D).length = D.length := by rw [(keysD_perm D).length_eq, List.length_map]
        have hposD : 0 < gcdL D := gcdL_pos hne fun q hq => by have := hDP.at_ q hq; omega
        refine lc_dat (n := ((keysD D).map V.int).length) walk_list (fun i => (keysD D)[i]?.bind fun k => some (dQ (k, (lookD D k).fdiv ((gcdL D : Nat) : Int)))) (fun H' s => s.seq (SqL.of upd_same)) (fun i H1 x H2 hi hY => by rw [hY.1]; exact Same.refl _) hN (by rw [sizeLine_eq]; omega) (fun i x H5 H6 k hi hY sm5 sm6 hk hkn => ?_) (fun H5 zs hzs hNL sm5 => ?_)
        · obtain ⟨rfl, hx⟩ := hY
          rw [List.getElem?_map] at hx
          obtain ⟨ky, hky, rfl⟩ := Option.map_eq_some_iff.mp hx
          rw [hky] at hk
          have hmem : ky ∈ D.map (·.1) := (keysD_perm D).mem_iff.mp (List.mem_of_getElem? hky)
          have hg := eD_get hmem
          have hD6 := sm6 _ _ (s4 _ _ hD3)
          have hdg : DGet H6 d (.int ky) (some (.int (lookD D ky))) := by
            have := DGet.k (k := Sum.inl ky) hD6
            rw [hg] at this
            exact this
          have hqD := lookD_mem hmem
          have hqv := hDP.at_ _ hqD
          have hle : gcdL D ≤ (lookD D ky).natAbs := Nat.le_of_dvd (by omega) (gcdL_dvd hqD)
          refine ⟨rfl, lc_yes ⟨_, rfl, _, rfl, _, rfl, d, _, rfl, hdg, _, rfl, _, _, rfl, rfl, ⟨by omega, by omega⟩, two_le2, fun t ht => hk _ _ _ rfl (same_laid ht) (.tup upd_same (.cons (.int _) (.cons (.int _) .nil)))⟩⟩
        · rw [kl, range_fm] at hzs
          have hzs : TpAll H5 zs ((overG (gcdL D) (allD D)).map dQ) := by
            have e : ((keysD D).filterMap fun k => some (dQ (k, (lookD D k).fdiv ((gcdL D : Nat) : Int)))) = (overG (gcdL D) (allD D)).map dQ := by
              unfold overG allD
              rw [List.map_map, List.map_map]
              exact congrFun (List.filterMap_eq_map (f := dQ ∘ (fun q : Int × Int => (q.1, q.2.fdiv ((gcdL D : Nat) : Int))) ∘ fun k => (k, lookD D k))) _
            rw [← e]
            exact hzs
          have sE : Same H2 H5 := (s3.trans s4).trans sm5
          refine ⟨N, zs, prtB ((overG (gcdL D) (allD D)).map dQ), rfl, SqL.of hNL, fun T u hu hT => ?_⟩
          have s8 : Same H5 (upd H5 T u) := same_laid hT
          refine hq _ _ _ (fun b o e n => s8 _ _ (sE _ _ (kp b o e n))) (hB2.same (sE.trans s8)) (tp_of hu upd_same (hzs.keep s8.tups)) (over_ok hDP hne) ?_
          unfold overG allD
          rw [List.length_map, List.length_map, klD]
          exact hdl3
end
end T83

set_option Elab.async false
set_option linter.all false
set_option maxRecDepth 100000
set_option maxHeartbeats 2000000
/-! the order of choices; rows of choices -/
namespace T83
open PySem PySem.Spec PyProof.Rows L2 RZ
theorem toksQ_inj : ∀ ps qs : Prt, PySem.W.keyToksAll (ps.map dQ) = PySem.W.keyToksAll (qs.map dQ) → ps = qs
  | [], [], _ => rfl
  | [], q :: qs, h => by
    simp only [List.map_nil, List.map_cons, PySem.W.keyToksAll] at h
    injection h with h1 h2
    injection h1 with h1
    omega
  | p :: ps, [], h => by
    simp only [List.map_nil, List.map_cons, PySem.W.keyToksAll] at h
    injection h with h1 h2
    injection h1 with h1
    omega
  | p :: ps, q :: qs, h => by
    simp only [List.map_cons, PySem.W.keyToksAll, dQ, PySem.W.keyToks, List.cons_append, List.nil_append, List.cons.injEq, true_and, Sum.inl.injEq] at h
    obtain ⟨h1, h2, h3⟩ := h
    rw [toksQ_inj ps qs h3, Prod.ext h1 h2]
theorem toksC_inj {c d : Chc} (h : PySem.W.keyToks (dC c) = PySem.W.keyToks (dC d)) : c = d := by
  simp only [dC, dPr, PySem.W.keyToksAll, PySem.W.keyToks, List.cons_append, List.nil_append, List.cons.injEq, true_and, Sum.inl.injEq] at h
  obtain ⟨h1, h2⟩ := h
  have h3 := toksQ_inj c.2 d.2 (List.append_cancel_right h2)
  exact Prod.ext h1 h3
theorem ltC_irrefl (c : Chc) : ltC c c = false := PyProof.Rows.lex_irrefl _
theorem ltC_total {c d : Chc} (h1 : ltC c d = false) (h2 : ltC d c = false) : c = d := toksC_inj (PyProof.Rows.lex_total _ _ h1 h2)
theorem ltC_trans {a b c : Chc} (h1 : ltC a b = true) (h2 : ltC b c = true) : ltC a c = true := PyProof.Rows.lex_trans _ _ _ h1 h2
theorem ltC_neg {a b c : Chc} (h : ltC a c = true) : ltC a b = true ∨ ltC b c = true := PyProof.Rows.lex_negTrans _ _ _ h
theorem le_C (a b : Chc) : PySem.W.dataLe false dC a b = !ltC b a := rfl
theorem srtC_pw (cs : List Chc) : (srtC cs).Pairwise fun a b => ltC b a = false := by
  have := List.pairwise_mergeSort (le := PySem.W.dataLe false dC) (fun a b c h1 h2 => by
    rw [le_C, Bool.not_eq_true'] at *
    cases e : ltC c a with
    | false => rfl
    | true =>
      rcases ltC_neg (b := b) e with h | h
      · rw [h2] at h
        cases h
      · rw [h1] at h
        cases h) (fun a b => by
    rw [le_C, le_C]
    cases e1 : ltC b a with
    | false => rfl
    | true =>
      cases e2 : ltC a b with
      | false => rfl
      | true =>
        have := ltC_trans e1 e2
        rw [ltC_irrefl] at this
        cases this) cs
  exact this.imp fun h => by simpa [le_C] using h
theorem asc_C {l : List Chc} (h : ascB ltC l = true) : l.Pairwise fun a b => ltC a b = true := by
  induction l with
  | nil => exact .nil
  | cons a l ih =>
    cases l with
    | nil => exact List.pairwise_singleton _ _
    | cons b r =>
      have h : (ltC a b && ascB ltC (b :: r)) = true := h
      rw [Bool.and_eq_true] at h
      have hp := ih h.2
      refine .cons (fun x hx => ?_) hp
      rcases List.mem_cons.mp hx with e | e
      · rw [e]
        exact h.1
      · exact ltC_trans h.1 ((List.pairwise_cons.mp hp).1 x e)
theorem asc_of {l : List Chc} (h : l.Pairwise fun a b => ltC a b = true) : ascB ltC l = true := by
  induction l with
  | nil => rfl
  | cons a l ih =>
    cases l with
    | nil => rfl
    | cons b r =>
      obtain ⟨h1, h2⟩ := List.pairwise_cons.mp h
      show (ltC a b && ascB ltC (b :: r)) = true
      rw [ih h2, h1 b List.mem_cons_self]
      rfl
theorem asc_nodup {l : List Chc} (h : ascB ltC l = true) : l.Nodup := (asc_C h).imp fun h e => by
  rw [e, ltC_irrefl] at h
  cases h
theorem srtC_asc {cs : List Chc} (h : cs.Nodup) : ascB ltC (srtC cs) = true := by
  have h1 := srtC_pw cs
  have h2 : (srtC cs).Nodup := (srtC_perm cs).nodup_iff.mpr h
  refine asc_of ((h1.and h2).imp fun {a b} h => ?_)
  cases e : ltC a b with
  | true => rfl
  | false => exact absurd (ltC_total e h.1) h.2
theorem srtC_asc_eq (cs : List Chc) : ascB ltC (srtC cs) = decide cs.Nodup := by
  by_cases h : cs.Nodup
  · rw [srtC_asc h, decide_eq_true h]
  · rw [decide_eq_false h]
    cases e : ascB ltC (srtC cs) with
    | false => rfl
    | true => exact absurd ((srtC_perm cs).nodup_iff.mp (asc_nodup e)) h
/-! ### machines that are such -/
theorem okM_of {m : Mach} (h : okM m = true) : 1 ≤ m.1.length ∧ m.1.length ≤ 16 ∧ isLet m.1 = true ∧ m.2.length = m.1.length ∧ ∀ r ∈ m.2, okRow m.1.length r = true := by
  unfold okM at h
  simp only [Bool.and_eq_true, decide_eq_true_eq, List.all_eq_true] at h
  obtain ⟨⟨⟨h1, h2⟩, h3⟩, h4, h5⟩ := h
  exact ⟨h1, h2, h3, h4, h5⟩
theorem okM_mk {m : Mach} (h1 : 1 ≤ m.1.length) (h2 : m.1.length ≤ 16) (h3 : isLet m.1 = true) (h4 : m.2.length = m.1.length) (h5 : ∀ r ∈ m.2, okRow m.1.length r = true) : okM m = true := by
  unfold okM
  simp only [Bool.and_eq_true, decide_eq_true_eq, List.all_eq_true]
  exact ⟨⟨⟨h1, h2⟩, h3⟩, h4, h5⟩
theorem okRow_of {size : Int} {r : List Chc} (h : okRow size r = true) : 1 ≤ r.length ∧ r.length ≤ 4 ∧ (∀ c ∈ r, okC size c = true) ∧ ascB ltC r = true := by
  unfold okRow at h
  simp only [Bool.and_eq_true, decide_eq_true_eq, List.all_eq_true] at h
  exact ⟨h.1.1, h.1.2, h.2.1, h.2.2⟩
theorem okC_of {size : Int} {c : Chc} (h : okC size c = true) : (0 ≤ c.1 ∧ c.1 ≤ 10 ^ 6) ∧ okPr size c.2 = true := by
  unfold okC at h
  rw [Bool.and_eq_true] at h
  obtain ⟨i, e, h1, h2⟩ := wi_int h.1
  cases e
  exact ⟨⟨h1, h2⟩, h.2⟩
theorem asc_pw {l : List Int} (h : ascB (fun i j => decide (i < j)) l = true) : l.Pairwise (· < ·) := by
  induction l with
  | nil => exact .nil
  | cons a l ih =>
    cases l with
    | nil => exact List.pairwise_singleton _ _
    | cons b r =>
      have h : (decide (a < b) && ascB (fun i j => decide (i < j)) (b :: r)) = true := h
      rw [Bool.and_eq_true, decide_eq_true_eq] at h
      have hp := ih h.2
      refine .cons (fun x hx => ?_) hp
      rcases List.mem_cons.mp hx with e | e
      · rw [e]
        exact h.1
      · exact Int.lt_trans h.1 ((List.pairwise_cons.mp hp).1 x e)
theorem okPr_of {size : Int} {ps : Prt} (h : okPr size ps = true) : ps ≠ [] ∧ (∀ q ∈ ps, (0 ≤ q.1 ∧ q.1 ≤ size - 1) ∧ 1 ≤ q.2 ∧ q.2 ≤ 10 ^ 6) ∧ (ps.map (·.1)).Pairwise (· < ·) ∧ gcdL ps = 1 := by
  unfold okPr at h
  rw [Bool.and_eq_true, Bool.and_eq_true, Bool.and_eq_true, Bool.not_eq_true', decide_eq_false_iff_not, decide_eq_true_eq, List.all_eq_true] at h
  obtain ⟨h1, h2, h3, h4⟩ := h
  refine ⟨h1, fun q hq => ?_, asc_pw h3, h4⟩
  have := h2 q hq
  rw [Bool.and_eq_true] at this
  obtain ⟨i, e, a1, a2⟩ := wi_int this.1
  obtain ⟨j, e2, a3, a4⟩ := wi_int this.2
  cases e
  cases e2
  exact ⟨⟨a1, a2⟩, a3, a4⟩
/-- ascending numbers from 0 to n - 1 are at most n -/
theorem asc_few : ∀ (l : List Int) (lo hi : Int), l.Pairwise (· < ·) → (∀ x ∈ l, lo ≤ x ∧ x ≤ hi) → lo ≤ hi + 1 → (l.length : Int) ≤ hi - lo + 1
  | [], lo, hi, _, _, h => by
    show (0 : Int) ≤ _
    omega
  | a :: l, lo, hi, h, hb, _ => by
    obtain ⟨h1, h2⟩ := List.pairwise_cons.mp h
    have ha := hb a List.mem_cons_self
    have := asc_few l (a + 1) hi h2 (fun x hx => ⟨by have := h1 x hx; omega, (hb x (List.mem_cons_of_mem _ hx)).2⟩) (by omega)
    rw [List.length_cons]
    omega
theorem okPr_prs {size : Int} {ps : Prt} (h : okPr size ps = true) (hs : size ≤ 16) : Prs ps := by
  obtain ⟨h1, h2, h3, h4⟩ := okPr_of h
  refine ⟨?_, h3.imp fun h e => by omega, fun q hq => by have := h2 q hq; omega⟩
  have hb : ∀ x ∈ ps.map (·.1), 0 ≤ x ∧ x ≤ 15 := fun x hx => by
    obtain ⟨q, hq, rfl⟩ := List.mem_map.mp hx
    have := h2 q hq
    omega
  have := asc_few _ 0 15 h3 hb (by decide)
  rw [List.length_map] at this
  omega
theorem okM_prs {m : Mach} (h : okM m = true) : ∀ r ∈ m.2, ∀ c ∈ r, Prs c.2 := fun r hr c hc => by
  obtain ⟨_, h2, _, _, h5⟩ := okM_of h
  obtain ⟨_, _, h6, _⟩ := okRow_of (h5 r hr)
  exact okPr_prs (okC_of (h6 c hc)).2 (by omega)
theorem okM_sml {m : Mach} (h : okM m = true) : Sml m := by
  obtain ⟨h1, h2, h3, h4, h5⟩ := okM_of h
  refine ⟨by omega, by omega, fun r hr => ?_⟩
  obtain ⟨_, h7, _, _⟩ := okRow_of (h5 r hr)
  exact ⟨by omega, fun c hc => by have := (okM_prs h r hr c hc).few; omega⟩
/-! ### another row -/
/-- a row's choices, perhaps without parts -/
def okC0 (size : Int) (c : Chc) : Prop := okC size c = true ∨ ((0 ≤ c.1 ∧ c.1 ≤ 10 ^ 6) ∧ c.2 = [])
def rowedP (m : Mach) (j : Nat) (cs : List Chc) : Option Mach := if cs = [] ∨ ¬ cs.Nodup ∨ (∃ c ∈ cs, c.2 = []) then none else some (setR m j cs)
theorem okPr_nil (size : Int) : okPr size [] = false := rfl
theorem setR_ok {m : Mach} (h : okM m = true) {j : Nat} (hj : j < m.2.length) {cs : List Chc} (hc : ∀ c ∈ cs, okC0 m.1.length c) (hl : cs.length ≤ 4) : okM (setR m j cs) = (rowedP m j cs).isSome := by
  obtain ⟨h1, h2, h3, h4, h5⟩ := okM_of h
  have hrl : (srtC cs).length = cs.length := (srtC_perm cs).length_eq
  unfold rowedP
  split
  · rename_i hn
    show okM (setR m j cs) = false
    cases e : okM (setR m j cs) with
    | false => rfl
    | true =>
      obtain ⟨_, _, _, _, h6⟩ := okM_of e
      have hr := h6 (srtC cs) (List.mem_set hj _)
      obtain ⟨a1, a2, a3, a4⟩ := okRow_of hr
      rcases hn with hn | hn | ⟨c, hc1, hc2⟩
      · have hz : cs.length = 0 := by rw [hn]; rfl
        omega
      · rw [srtC_asc_eq] at a4
        exact absurd (of_decide_eq_true a4) hn
      · have := (okC_of (a3 c ((srtC_perm cs).mem_iff.mpr hc1))).2
        rw [hc2] at this
        cases this
  · rename_i hn
    have hn1 : cs ≠ [] := fun z => hn (.inl z)
    have hn2 : cs.Nodup := Decidable.byContradiction fun z => hn (.inr (.inl z))
    have hn3 : ∀ c ∈ cs, c.2 ≠ [] := fun c hc1 hc2 => hn (.inr (.inr ⟨c, hc1, hc2⟩))
    refine okM_mk (m := setR m j cs) h1 h2 h3 (by show (m.2.set j _).length = m.1.length; rw [List.length_set]; exact h4) fun r hr => ?_
    rcases List.mem_or_eq_of_mem_set hr with z | z
    · exact h5 r z
    · rw [z]
      show okRow m.1.length (srtC cs) = true
      unfold okRow
      simp only [Bool.and_eq_true, decide_eq_true_eq, List.all_eq_true]
      have : 0 < cs.length := List.length_pos_iff.mpr hn1
      refine ⟨⟨by omega, by omega⟩, fun c hcc => ?_, srtC_asc hn2⟩
      have hcm := (srtC_perm cs).mem_iff.mp hcc
      rcases hc c hcm with q | ⟨_, q⟩
      · exact q
      · exact absurd q (hn3 c hcm)
end T83

set_option Elab.async false
set_option linter.all false
set_option maxRecDepth 100000
set_option maxHeartbeats 2000000
namespace T83
open PySem PySem.Spec PyProof.Rows L2 RZ
theorem nodup_few {α : Type} : ∀ (l m : List α), l.Nodup → (∀ x ∈ l, x ∈ m) → l.length ≤ m.length
  | [], _, _, _ => Nat.zero_le _
  | a :: l, m, h, hs => by
    obtain ⟨h1, h2⟩ := List.nodup_cons.mp h
    obtain ⟨p, q, e⟩ := List.append_of_mem (hs a List.mem_cons_self)
    have := nodup_few l (p ++ q) h2 fun x hx => by
      have h3 := hs x (List.mem_cons_of_mem _ hx)
      rw [e] at h3
      rcases List.mem_append.mp h3 with h3 | h3
      · exact List.mem_append_left _ h3
      · rcases List.mem_cons.mp h3 with h3 | h3
        · rw [h3] at hx
          exact absurd hx h1
        · exact List.mem_append_right _ h3
    rw [e, List.length_cons, List.length_append, List.length_cons]
    rw [List.length_append] at this
    omega
theorem join_one : ∀ cs : List Nat, (Str.join Str.empty (cs.map fun c => (⟨#[c]⟩ : Str))).cps.toList = cs
  | [] => rfl
  | [c] => rfl
  | c :: d :: r => by
    have := join_one (d :: r)
    show (Str.join Str.empty ((⟨#[c]⟩ : Str) :: (⟨#[d]⟩ : Str) :: r.map fun c => (⟨#[c]⟩ : Str))).cps.toList = _
    rw [join_cons_cons, cps_toList_append, cps_toList_append]
    rw [List.map_cons] at this
    rw [this]
    rfl
/-- a name of signs of abc -/
theorem join_abc (cs : List Nat) (h : ∀ c ∈ cs, c ∈ (Str.ofString "abc").cps.toList) : (Txt.join Str.empty (cs.map fun c => (⟨#[c]⟩ : Str))).length = cs.length ∧ isLet (Txt.join Str.empty (cs.map fun c => (⟨#[c]⟩ : Str))) = true := by
  have e := join_one cs
  rw [← TL.join_eq] at e
  refine ⟨?_, ?_⟩
  · show (Txt.join Str.empty _).cps.size = _
    rw [← Array.length_toList, e]
  · unfold isLet
    rw [e, List.all_eq_true]
    intro c hc
    have := h c hc
    rw [decide_eq_true_eq]
    have e3 : (Str.ofString "abc").cps.toList = [97, 98, 99] := by decide +kernel
    rw [e3] at this
    simp only [List.mem_cons, List.not_mem_nil, or_false] at this
    rcases this with h | h | h <;> subst h <;> decide +kernel
theorem Bowl.mu2 {H : Hp} {l b : Addr} {o : HO} (h : Bowl H l) (hb : H b = some o) (n : lsti o) : Mu H [l, b] := by
  obtain ⟨_, _, _, h⟩ := h
  exact Mu.cons h True.intro (Mu.cons hb n (Mu.nil H))
theorem tc_snoc {H : Hp} {ks : List KC} {p : KC} (h : TC H ks) (hp : Tp H (.ref p.1) (dC p.2)) : TC H (ks ++ [p]) := fun q hq => by
  rcases List.mem_append.mp hq with z | z
  · exact h q z
  · rw [List.mem_singleton.mp z]
    exact hp
theorem TC.keep {H H' : Hp} {ks : List KC} (h : TC H ks) (t : TupK H H') : TC H' ks := fun p hp => (h p hp).keep t
theorem rowTp {H : Hp} {b : Addr} {ks : List KC} (h : H b = some (.tup (rf ks))) (k : TC H ks) : Tp H (.ref b) (dRow (ks.map (·.2))) := by
  refine .tup h ?_ (prtB_row _)
  clear h
  induction ks with
  | nil => exact .nil
  | cons p ks ih => exact .cons (k p List.mem_cons_self) (ih fun q hq => k q (List.mem_cons_of_mem _ hq))
theorem tpAll_snoc {H : Hp} : ∀ {xs : List V} {ds : List PyData} {x : V} {d : PyData}, TpAll H xs ds → Tp H x d → TpAll H (xs ++ [x]) (ds ++ [d])
  | _, _, _, _, .nil, h => .cons h .nil
  | _, _, _, _, .cons k t, h => .cons k (tpAll_snoc t h)
/-- sorted(set(row)) as a tuple -/
theorem row_made {w : World} {H5 : Hp} {ks L L1 : List KC} {size : Int} {a p T : Addr} (hK : TC H5 ks) (hKk : ∀ q ∈ ks, okC size q.2 = true) (h4 : ks.length ≤ 4) (h0 : 0 < ks.length) (hL1 : ∀ q ∈ L, q ∈ ks) (hL2 : ∀ q ∈ ks, q.2 ∈ L.map (·.2)) (hL3 : (L.map (·.2)).Nodup) (hperm : L1.Perm L)
    (ha : H5 a = none) (hp : upd H5 a (SetC w a L) p = none) (hT : upd (upd H5 a (SetC w a L)) p (.lst (rf (srt L1))) T = none) :
    Same H5 (upd (upd (upd H5 a (SetC w a L)) p (.lst (rf (srt L1)))) T (.tup (rf (srt L1)))) ∧ ∃ r, Tp (upd (upd (upd H5 a (SetC w a L)) p (.lst (rf (srt L1)))) T (.tup (rf (srt L1)))) (.ref T) (dRow r) ∧ okRow size r = true := by
  have sa : Same H5 (upd H5 a (SetC w a L)) := same_laid ha
  generalize upd H5 a (SetC w a L) = H6 at sa hp hT
  have sp : Same H6 (upd H6 p (.lst (rf (srt L1)))) := same_laid hp
  generalize upd H6 p (.lst (rf (srt L1))) = H7 at sp hT
  have sT : Same H7 (upd H7 T (.tup (rf (srt L1)))) := same_laid hT
  have sA : Same H5 (upd H7 T (.tup (rf (srt L1)))) := (sa.trans sp).trans sT
  have hT8 : (upd H7 T (.tup (rf (srt L1)))) T = some (.tup (rf (srt L1))) := upd_same
  generalize upd H7 T (.tup (rf (srt L1))) = H8 at sT sA hT8
  have hpm : (srt L1).Perm L := (srt_perm L1).trans hperm
  have hK8 : TC H8 (srt L1) := fun q hq2 => (hK q (hL1 q (hpm.mem_iff.mp hq2))).keep sA.tups
  have erow : (srt L1).map (·.2) = srtC (L1.map (·.2)) := srt_map L1
  have hnd : (L1.map (·.2)).Nodup := ((hperm.map (·.2)).nodup_iff).mpr hL3
  have hLk : L.length ≤ ks.length := nodup_few L ks ((List.pairwise_map.mp hL3).imp fun h e => h (congrArg _ e)) hL1
  have hL0 : 0 < L.length := by
    rcases ks with _ | ⟨q, ks⟩
    · cases h0
    · have := hL2 q List.mem_cons_self
      obtain ⟨q2, h1, _⟩ := List.mem_map.mp this
      exact List.length_pos_of_mem h1
  refine ⟨sA, (srt L1).map (·.2), rowTp hT8 hK8, ?_⟩
  unfold okRow
  simp only [Bool.and_eq_true, decide_eq_true_eq, List.all_eq_true]
  have hl : ((srt L1).map (·.2)).length = L.length := by rw [List.length_map, hpm.length_eq]
  refine ⟨⟨by omega, by omega⟩, fun c hc => ?_, by rw [erow]; exact srtC_asc hnd⟩
  obtain ⟨q, hq1, rfl⟩ := List.mem_map.mp hc
  exact hKk q (hL1 q (hpm.mem_iff.mp hq1))
section
variable {P : Program} {w : World} {K : PySem.W.Frag} {mg : Str → Option Value} {base : Heap}
/-! ### _law_machine -/
abbrev sLMach : Stmt := top 108
abbrev nLMach : List Str := ["bowl", "most", "times_v", "price", "size", "rows", "place", "row", "turn"]
theorem scLMach : FnScope nLMach ["bowl", "most", "times_v", "price"] (defScope sLMach) := ⟨rfl, rfl, rfl, by decide +kernel, rfl, by decide +kernel, by decide +kernel⟩
def spLMach : Sp := fun vs H Q _ => ∃ l : Addr, vs = [.ref l, .int 3, .int 3, .int 2] ∧ Bowl H l ∧ ∀ H' v m, Kp [l] H H' → Bowl H' l → Tp H' v (dM m) → okM m = true → Q v H'
theorem ok_lmach (F : Fx K mg) (D : At K mg "_law_machine" sLMach) (G1 : Cal P w K mg base CX0 1 "_law_scoop" ["bowl", "total"] spScoop) (G2 : Cal P w K mg base CX0 2 "_law_one_of" ["bowl", "items"] spOneOf) (G3 : Cal P w K mg base CX0 3 "_law_parts" ["bowl", "size"] spLParts) : Cal P w K mg base CX0 4 "_law_machine" ["bowl", "most", "times_v", "price"] spLMach := by
  refine cal_of D scLMach (fun vs H Q E h => ?_) (fun _ _ _ _ _ _ us hl => match us, hl with | [_, _, _, _], _ => rfl) fun f cdv A outer s H vs Q E hr h => ⟨_, PSs.nox (pss_cons (ps_set (i := 4) scLMach.nd rfl (Or.inl rfl) (pe_op op_add pe_int (pe_cal G1 (hr.mono (by decide)) (by rfl) pass0 (pa_cons (pv 0) (pa_cons (pv 1) pa_nil)))))
    (pss_cons (ps_set (i := 5) scLMach.nd rfl (Or.inl rfl) (pe_lst pa_nil))
    (pss_cons (ps_for PassesOwn.never rfl (pi_range1 rfl (F.b "range" (by decide)) (pa_cons (pv 4) pa_nil)) (pg_name (i := 6) scLMach.nd rfl (Or.inl rfl))
      (pss_cons (ps_set (i := 7) scLMach.nd rfl (Or.inl rfl) (pe_lst pa_nil))
      (pss_cons (ps_for PassesOwn.never rfl (pi_range1 rfl (F.b "range" (by decide)) (pa_cons (pe_op op_add pe_int (pe_cal G1 (hr.mono (by decide)) (by rfl) pass0 (pa_cons (pv 0) (pa_cons (pv 2) pa_nil)))) pa_nil)) (pg_name (i := 8) scLMach.nd rfl (Or.inl rfl))
        (pss_one (ps_expr (pe_bm PySem.F.plainAttrs_list PySem.F.slot_list_append PySem.F.type_list_append mt_append (pv 7) (pa_cons (pe_tup (pa_cons (pe_cal G1 (hr.mono (by decide)) (by rfl) pass0 (pa_cons (pv 0) (pa_cons (pe_op op_add (pv 3) pe_int) pa_nil))) (pa_cons (pe_cal G3 hr (by rfl) pass0 (pa_cons (pv 0) (pa_cons (pv 4) pa_nil))) pa_nil))) pa_nil)))))
      (pss_one (ps_expr (pe_bm PySem.F.plainAttrs_list PySem.F.slot_list_append PySem.F.type_list_append mt_append (pv 5) (pa_cons (pe_callTy call_tuple_of (by rfl) (F.b "tuple" (by decide)) (by decide +kernel) (pa_cons (pe_callB (cr_sortS rfl hr.units) (by rfl) (F.b "sorted" (by decide)) (by decide +kernel) (pa_cons (pe_callTy (cr_setC rfl hr.units) (by rfl) (F.b "set" (by decide)) (by decide +kernel) (pa_cons (pv 7) pa_nil)) pa_nil)) pa_nil)) pa_nil)))))))
    (pss_one (ps_ret (pe_tup (pa_cons (pe_join pe_str (pe_lc (own := [("place", 6)]) (g := gName 6) (tt := tYes) rfl scLMach.nd (pi_range1 rfl (F.b "range" (by decide)) (pa_cons (pv 4) pa_nil)) (blkOk_by (N := nLMach) (sc := defScope sLMach) (by decide +kernel))
        (fun _ _ _ _ _ => pg_name (i := 6) scLMach.nd rfl (Or.inl rfl)) (fun _ _ _ _ _ => pts_nil) (fun _ _ _ _ _ => pe_cal G2 (hr.mono (by decide)) (by rfl) pass0 (pa_cons (pv 0) (pa_cons pe_str pa_nil))))) (pa_cons (pe_callTy call_tuple_of (by rfl) (F.b "tuple" (by decide)) (by decide +kernel) (pa_cons (pv 5) pa_nil)) pa_nil)))))))), ?_⟩
  · obtain ⟨l, rfl, _⟩ := h
    rfl
  · obtain ⟨l, rfl, hB, hq⟩ := h
    refine ⟨_, rfl, _, rfl, l, 3, rfl, by decide, by decide, hB, fun r H1 hr1 k1 hB1 => ⟨_, _, rfl, rfl, ?_⟩⟩
    obtain ⟨size, hsz⟩ : ∃ size : Nat, size = 1 + r := ⟨_, rfl⟩
    have hsi : (1 : Int) + (r : Int) = (size : Int) := by omega
    show tSeq _ _ _ [some (.ref l), some (.int 3), some (.int 3), some (.int 2), some (.int ((1 : Int) + (r : Int))), none, none, none, none] H1
    rw [hsi]
    refine ⟨by show 0 ≤ sizeLine; rw [sizeLine_eq]; decide, fun rs hrs => ?_⟩
    have hrl : rs ≠ l := fun z => hB1.ne (z ▸ hrs)
    have s1 : Same H1 (upd H1 rs (.lst [])) := same_laid hrs
    have hk1 : H1 rs = none → H rs = none := fun z => by
      cases e : H rs with
      | none => rfl
      | some o =>
        rw [k1 _ _ e (by simpa using hrl)] at z
        cases z
    have kp1 : Kp [l] H (upd H1 rs (.lst [])) := fun b o e n => s1 _ _ (k1 b o e n)
    refine ⟨_, rfl, _, rfl, by omega, by omega, ?_⟩
    refine for_range (lo := 0) (n := ((size : Nat) : Int).toNat) (fun t σ H' => (∃ u6 u7 u8, σ = [some (.ref l), some (.int 3), some (.int 3), some (.int 2), some (.int (size : Int)), some (.ref rs), u6, u7, u8]) ∧ Kp [l] H H' ∧ Bowl H' l ∧ ∃ (xs : List V) (Rs : List (List Chc)), H' rs = some (.lst xs) ∧ TpAll H' xs (Rs.map dRow) ∧ Rs.length = t ∧ ∀ r ∈ Rs, okRow size r = true) ⟨⟨none, none, none, rfl⟩, kp1, hB1.same s1, [], [], upd_same, .nil, rfl, fun r h => by cases h⟩ (fun t σ H2 ht hP => ?_) (fun σ H2 hP => ?_)
    · obtain ⟨⟨u6, u7, u8, rfl⟩, kp, hB2, xs, Rs, hR, hXs, hRl, hRk⟩ := hP
      refine ⟨by show 0 ≤ sizeLine; rw [sizeLine_eq]; decide, fun rw hrw => ?_⟩
      have hwl : rw ≠ l := fun z => hB2.ne (z ▸ hrw)
      have hwr : rs ≠ rw := ne_of_none hR hrw
      have s3 : Same H2 (upd H2 rw (.lst [])) := same_laid hrw
      have hw3 : (upd H2 rw (.lst [])) rw = some (.lst (rf [])) := upd_same
      generalize upd H2 rw (.lst []) = H3 at s3 hw3
      refine ⟨_, rfl, _, rfl, l, 3, rfl, by decide, by decide, hB2.same s3, fun r4 H4 hr4 k4 hB4 => ⟨_, _, rfl, rfl, _, rfl, by omega, by omega, ?_⟩⟩
      have hw4 := k4 _ _ hw3 (by simpa using hwl)
      refine for_range (lo := 0) (n := (1 + ((r4 : Nat) : Int)).toNat) (fun t2 σ H' => (∃ u8, σ = [some (.ref l), some (.int 3), some (.int 3), some (.int 2), some (.int (size : Int)), some (.ref rs), some (.int (0 + (t : Int))), some (.ref rw), u8]) ∧ Kp [l, rw] H4 H' ∧ Bowl H' l ∧ ∃ ks : List KC, H' rw = some (.lst (rf ks)) ∧ TC H' ks ∧ ks.length = t2 ∧ ∀ q ∈ ks, okC size q.2 = true) ⟨⟨u8, rfl⟩, Kp.refl _ _, hB4, [], hw4, (fun q h => by cases h), rfl, (fun q h => by cases h)⟩ (fun t2 σ H5 ht2 hP => ?_) (fun σ H5 hP => ?_)
      · obtain ⟨⟨v8, rfl⟩, kq, hB5, ks, hw5, hK, hKl, hKk⟩ := hP
        refine ⟨_, rfl, .inl ⟨rfl, _, .inl (.inl hw5)⟩, _, rfl, _, rfl, _, _, rfl, rfl, l, 3, rfl, by decide, by decide, hB5, fun pr H6 hpr k6 hB6 => ⟨_, rfl, _, rfl, l, size, rfl, by omega, by omega, hB6, fun H7 v ps k7 hB7 hv hps hpl => ⟨two_le2, fun T hT => ?_⟩⟩⟩
        have hw7 := k7 _ _ (k6 _ _ hw5 (by simpa using hwl)) (by simpa using hwl)
        have hTl : T ≠ l := fun z => hB7.ne (z ▸ hT)
        have hTw : rw ≠ T := ne_of_none hw7 hT
        have sT : Same H7 (upd H7 T (.tup [.int (pr : Int), v])) := same_laid hT
        have m6 : TupK H5 H6 := hB5.tups k6
        have m7 : TupK H6 H7 := hB6.tups k7
        have hc : Tp (upd H7 T (.tup [.int (pr : Int), v])) (.ref T) (dC ((pr : Int), ps)) := .tup upd_same (.cons (.int _) (.cons (hv.keep sT.tups) .nil))
        refine ⟨rw, _, _, rfl, rfl, sT _ _ hw7, by rw [List.length_map, sizeLine_eq]; omega, ?_⟩
        have hx : (upd H7 T (.tup [V.int (pr : Int), v])) rw = some (.lst (rf ks)) := sT _ _ hw7
        have hBT := hB7.same sT
        have hKT : TC (upd H7 T (.tup [V.int (pr : Int), v])) ks := ((hK.keep m6).keep m7).keep sT.tups
        have kT : Kp [l, rw] H4 (upd H7 T (.tup [V.int (pr : Int), v])) := fun b o e n => sT _ _ (k7 _ _ (k6 _ _ (kq _ _ e n) (by simp at n ⊢; exact n.1)) (by simp at n ⊢; exact n.1))
        generalize upd H7 T (.tup [V.int (pr : Int), v]) = H8 at hx hBT hKT kT hc
        have t9 : TupK H8 (upd H8 rw (.lst (rf (ks ++ [(T, ((pr : Int), ps))])))) := tk_upd hx id
        have e9 : rf ks ++ [V.ref T] = rf (ks ++ [(T, ((pr : Int), ps))]) := by simp
        rw [e9]
        refine ⟨⟨_, rfl⟩, kT.put (.inl (by simp)), ?_, ks ++ [(T, ((pr : Int), ps))], upd_same, (tc_snoc hKT hc).keep t9, by simp [hKl], fun q hq2 => ?_⟩
        · obtain ⟨b0, b1, b2, hb⟩ := hBT
          exact ⟨b0, b1, b2, by rw [upd_ne (Ne.symm hwl)]; exact hb⟩
        · rcases List.mem_append.mp hq2 with z | z
          · exact hKk q z
          · rw [List.mem_singleton.mp z]
            show okC size ((pr : Int), ps) = true
            unfold okC
            rw [Bool.and_eq_true]
            refine ⟨?_, hps⟩
            show (decide ((0 : Int) ≤ (pr : Int)) && decide ((pr : Int) ≤ 10 ^ 6)) = true
            rw [Bool.and_eq_true, decide_eq_true_eq, decide_eq_true_eq]
            omega
      · obtain ⟨⟨v8, rfl⟩, kq, hB5, ks, hw5, hK, hKl, hKk⟩ := hP
        have hrn : (1 + ((r4 : Nat) : Int)).toNat = 1 + r4 := by omega
        rw [hrn] at hKl
        have hR5 : H5 rs = some (.lst xs) := kq _ _ (k4 _ _ (s3 _ _ hR) (by simpa using hrl)) (by simp; exact ⟨hrl, hwr⟩)
        have hRw : rs ≠ rw := hwr
        refine ⟨_, rfl, .inl ⟨rfl, _, .inl (.inl hR5)⟩, _, rfl, rw, ks, rfl, SqL.of hw5, hK, by omega, fun a L ha hL1 hL2 hL3 => ⟨a, L, rfl, upd_same, ?_, fun p L1 hp hperm => ⟨p, _, rfl, .inl ⟨SqL.of upd_same, fun T hT => ?_⟩⟩⟩⟩
        · exact fun q hq2 => (hK q (hL1 q hq2)).keep (same_laid ha).tups
        obtain ⟨sA, rw2, hrow, hok⟩ := row_made (w := w) (H5 := H5) hK hKk (by omega) (by omega) hL1 hL2 hL3 hperm ha hp hT
        have hxl : xs.length = t := by rw [hXs.len, List.length_map, hRl]
        refine ⟨rs, _, _, rfl, rfl, sA _ _ hR5, by rw [sizeLine_eq]; omega, ?_⟩
        have hB8 := hB5.same sA
        have hR8 := sA _ _ hR5
        have hX8 : TpAll _ xs (Rs.map dRow) := (((hXs.keep s3.tups).keep ((hB2.same s3).tups k4)).keep (kq.tups (hB4.mu2 hw4 True.intro))).keep sA.tups
        have k8 : Kp [l] H _ := fun b o e n => sA b o (kq b o (k4 b o (s3 b o (kp b o e n)) n) (by
          simp at n ⊢
          refine ⟨n, fun z => ?_⟩
          rw [z] at e
          have := kp _ _ e (by simpa using hwl)
          rw [hrw] at this
          cases this))
        refine ⟨⟨_, _, _, rfl⟩, k8.put (.inr (hk1 hrs)), ?_, xs ++ [.ref T], Rs ++ [rw2], upd_same, ?_, by simp [hRl], fun r hr2 => ?_⟩
        · obtain ⟨b0, b1, b2, hb⟩ := hB8
          exact ⟨b0, b1, b2, by rw [upd_ne (Ne.symm hrl)]; exact hb⟩
        · rw [List.map_append]
          exact (tpAll_snoc hX8 hrow).keep (tk_upd hR8 id)
        · rcases List.mem_append.mp hr2 with z | z
          · exact hRk r z
          · rw [List.mem_singleton.mp z]
            exact hok
    · obtain ⟨⟨u6, u7, u8, rfl⟩, kp, hB2, xs, Rs, hR, hXs, hRl, hRk⟩ := hP
      refine ⟨⟨_, rfl⟩, _, rfl, _, rfl, by omega, by omega, fun N hN => ?_⟩
      have hNl : N ≠ l := fun z => hB2.ne (z ▸ hN)
      have hNr : rs ≠ N := ne_of_none hR hN
      have sN : Same H2 (upd H2 N (.lst [])) := same_laid hN
      refine lc_range (lo := 0) (n := ((size : Nat) : Int).toNat) (fun t H' => Kp [l, N] (upd H2 N (.lst [])) H' ∧ Bowl H' l ∧ ∃ cs : List Nat, H' N = some (.lst ((cs.map fun c => (⟨#[c]⟩ : Str)).map V.str)) ∧ cs.length = t ∧ ∀ c ∈ cs, c ∈ (Str.ofString "abc").cps.toList) ⟨Kp.refl _ _, hB2.same sN, [], upd_same, rfl, (fun c h => by cases h)⟩ (fun t H3 ht hP => ?_) (fun H3 hP => ?_)
      · obtain ⟨kN, hB3, cs, hN3, hcl, hcs⟩ := hP
        refine ⟨rfl, lc_yes ⟨_, rfl, l, _, rfl, hB3, .inl ⟨_, rfl, by decide +kernel, by decide +kernel, fun c H4 hc k4 hB4 => ?_⟩⟩⟩
        have hN4 := k4 _ _ hN3 (by simpa using hNl)
        refine ⟨_, hN4, by rw [List.length_map, List.length_map, sizeLine_eq]; omega, ?_⟩
        refine ⟨(kN.trans (k4.wide fun b hb => .inl (by simp at hb ⊢; exact .inl hb))).put (.inl (by simp)), ?_, cs ++ [c], ?_, by simp [hcl], fun x hx => ?_⟩
        · obtain ⟨b0, b1, b2, hb⟩ := hB4
          exact ⟨b0, b1, b2, by rw [upd_ne (Ne.symm hNl)]; exact hb⟩
        · rw [upd_same]
          simp
        · rcases List.mem_append.mp hx with z | z
          · exact hcs x z
          · rw [List.mem_singleton.mp z]
            exact hc
      · obtain ⟨kN, hB3, cs, hN3, hcl, hcs⟩ := hP
        obtain ⟨j1, j2⟩ := join_abc cs hcs
        have hszc : cs.length = size := by omega
        have hR3 : H3 rs = some (.lst xs) := kN _ _ (sN _ _ hR) (by simp; exact ⟨hrl, hNr⟩)
        have hX3 : TpAll H3 xs (Rs.map dRow) := (hXs.keep sN.tups).keep (kN.tups ((hB2.same sN).mu2 upd_same True.intro))
        refine ⟨_, _, _, rfl, rfl, .inl (SqL.of hN3), ?_, _, rfl, rs, xs, rfl, .inl ⟨SqL.of hR3, fun T hT => ⟨two_le2, fun U hU => ?_⟩⟩⟩
        · have : ∀ cs : List Nat, ((cs.map fun c => (⟨#[c]⟩ : Str)).map (·.length)).sum = cs.length := fun cs => by
            induction cs with
            | nil => rfl
            | cons c cs ih =>
              simp only [List.map_cons, List.sum_cons, ih, List.length_cons]
              show 1 + cs.length = _
              omega
          rw [this, List.length_map]
          show cs.length + cs.length * 0 ≤ _
          omega
        have sT : Same H3 (upd H3 T (.tup xs)) := same_laid hT
        have hT4 : (upd H3 T (.tup xs)) T = some (.tup xs) := upd_same
        generalize upd H3 T (.tup xs) = H4 at sT hT4 hU
        have sU : Same H4 (upd H4 U (.tup [.str (Txt.join Str.empty (cs.map fun c => (⟨#[c]⟩ : Str))), .ref T])) := same_laid hU
        refine hq _ _ (Txt.join Str.empty (cs.map fun c => (⟨#[c]⟩ : Str)), Rs) ?_ ?_ ?_ ?_
        · intro b o e n
          have h2 := kp b o e n
          refine sU _ _ (sT _ _ (kN _ _ (sN _ _ h2) ?_))
          simp at n ⊢
          refine ⟨n, fun z => ?_⟩
          rw [z] at h2
          rw [hN] at h2
          cases h2
        · exact (hB3.same sT).same sU
        · exact .tup upd_same (.cons (.str _) (.cons (.tup (sU _ _ hT4) (((hX3.keep sT.tups).keep sU.tups)) (prtB_rows _)) .nil))
        · refine okM_mk ?_ ?_ j2 ?_ fun r hr => ?_
          · show 1 ≤ (Txt.join Str.empty _).length
            omega
          · show (Txt.join Str.empty _).length ≤ 16
            omega
          · show Rs.length = (Txt.join Str.empty _).length
            omega
          · show okRow ((Txt.join Str.empty (cs.map fun c => (⟨#[c]⟩ : Str))).length) r = true
            rw [j1, hszc]
            exact hRk r hr
end
end T83

set_option Elab.async false
set_option linter.all false
set_option maxRecDepth 100000
set_option maxHeartbeats 2000000
namespace T83
open PySem PySem.Spec PyProof.Rows L2 RZ
theorem dC_lay (c : Chc) : (dC c).canLay0 = true := by
  unfold dC dPr
  rw [PyData.canLay0, PyData.canLayAll0, PyData.canLayAll0, PyData.canLayAll0, PyData.canLay0, PyData.canLay0, prt_lay]
  rfl
theorem dCs_lay : ∀ cs : List Chc, PyData.canLayAll0 (cs.map dC) = true
  | [] => rfl
  | c :: cs => by
    show PyData.canLayAll0 (dC c :: cs.map dC) = true
    rw [PyData.canLayAll0, dC_lay c, dCs_lay cs]
    rfl
theorem dCs_dep : ∀ cs : List Chc, PyData.depthAll (cs.map dC) ≤ 3
  | [] => by show 0 ≤ 3; decide
  | c :: cs => by
    show PyData.depthAll (dC c :: cs.map dC) ≤ 3
    rw [PyData.depthAll]
    have h1 := dC_dep c
    have h2 := dCs_dep cs
    omega
theorem cs_shaped (cs : List Chc) : SeqAt.shaped (.list (cs.map dC)) = true := by
  have h := dCs_dep cs
  unfold SeqAt.shaped
  rw [PyData.canLay0, dCs_lay, Bool.true_and, decide_eq_true_eq, PyData.depth]
  omega
theorem eqv_nil (ds : List PyData) : PyData.eqv (.list ds) (.list []) = decide (ds = []) := by
  cases ds with
  | nil => rfl
  | cons d ds =>
    show PyData.eqvAll (d :: ds) [] = _
    rw [PyData.eqvAll, decide_eq_false (by simp)]
theorem eqv_nilT (ds : List PyData) : PyData.eqv (.tuple ds) (.tuple []) = decide (ds = []) := by
  cases ds with
  | nil => rfl
  | cons d ds =>
    show PyData.eqvAll (d :: ds) [] = _
    rw [PyData.eqvAll, decide_eq_false (by simp)]
theorem nodup_perm {α : Type} : ∀ (l m : List α), l.Nodup → (∀ x ∈ l, x ∈ m) → m.length ≤ l.length → m.Perm l
  | [], m, _, _, h => by
    rw [List.length_eq_zero_iff.mp (Nat.le_zero.mp h)]
  | a :: l, m, h, hs, hl => by
    obtain ⟨h1, h2⟩ := List.nodup_cons.mp h
    obtain ⟨p, q, e⟩ := List.append_of_mem (hs a List.mem_cons_self)
    subst e
    have := nodup_perm l (p ++ q) h2 (fun x hx => by
      have h3 := hs x (List.mem_cons_of_mem _ hx)
      rcases List.mem_append.mp h3 with h3 | h3
      · exact List.mem_append_left _ h3
      · rcases List.mem_cons.mp h3 with h3 | h3
        · rw [h3] at hx
          exact absurd hx h1
        · exact List.mem_append_right _ h3) (by
      rw [List.length_append, List.length_cons] at hl
      rw [List.length_append]
      rw [List.length_cons] at hl
      omega)
    exact List.perm_middle.trans (this.cons a)
/-- fewer in the set: not all are different -/
theorem few_iff {α : Type} {l m : List α} (h : l.Nodup) (h1 : ∀ x ∈ l, x ∈ m) (h2 : ∀ x ∈ m, x ∈ l) : (l.length < m.length) ↔ ¬ m.Nodup := by
  refine ⟨fun z n => ?_, fun n => ?_⟩
  · have := nodup_few m l n h2
    omega
  · by_cases z : l.length < m.length
    · exact z
    · exact absurd ((nodup_perm l m h h1 (by omega)).nodup_iff.mpr h) n
section
variable {P : Program} {w : World} {K : PySem.W.Frag} {mg : Str → Option Value} {base : Heap}
/-! ### _law_put -/
abbrev sLPut : Stmt := top 110
theorem scLPut : FnScope ["values", "at", "value"] ["values", "at", "value"] (defScope sLPut) := ⟨rfl, rfl, rfl, by decide +kernel, rfl, by decide +kernel, by decide +kernel⟩
def spLPut : Sp := fun vs H Q _ => ∃ (a : Addr) (xs : List V) (j : Nat) (v : V), vs = [.ref a, .int (j : Int), v] ∧ H a = some (.tup xs) ∧ j < xs.length ∧ xs.length ≤ 1000 ∧ ∀ H' b, Same H H' → H' b = some (.tup (xs.set j v)) → Q (.ref b) H'
theorem six_nat (n j : Nat) (d : Nat) : HT.sIx n d (some (j : Int)) = min j n := by
  unfold HT.sIx
  simp
  intro h
  omega
theorem cut_pre (xs : List V) (j : Nat) : cutV xs none (some (j : Int)) = xs.take j := by
  unfold cutV
  rw [six_nat]
  show (xs.drop 0).take (min j xs.length - 0) = _
  rw [List.drop_zero, Nat.sub_zero, ← List.take_eq_take_min]
theorem cut_suf (xs : List V) (j : Nat) : cutV xs (some ((j : Int) + 1)) none = xs.drop (j + 1) := by
  unfold cutV
  rw [show ((j : Int) + 1) = ((j + 1 : Nat) : Int) by omega, six_nat]
  show (xs.drop (min (j + 1) xs.length)).take (xs.length - _) = _
  by_cases h : j + 1 ≤ xs.length
  · rw [Nat.min_eq_left h]
    refine List.take_of_length_le ?_
    rw [List.length_drop]
    omega
  · rw [List.drop_eq_nil_of_le (by omega), List.drop_eq_nil_of_le (by omega), List.take_nil]
theorem ok_lput (F : Fx K mg) (D : At K mg "_law_put" sLPut) : Cal P w K mg base CX0 1 "_law_put" ["values", "at", "value"] spLPut := by
  refine cal_of D scLPut (fun vs H Q E h => ?_) (fun _ _ _ _ _ _ us hl => match us, hl with | [_, _, _], _ => rfl) fun f cdv A outer s H vs Q E hr h => ⟨_, PSs.nox (pss_one (ps_ret (pe_op op_catA (pe_op op_catA (pe_slice sl_tupA (pv 0) po_none (po_some (pv 1))) (pe_tup (pa_cons (pv 2) pa_nil))) (pe_slice sl_tupA (pv 0) (po_some (pe_op op_add (pv 1) pe_int)) po_none)))), ?_⟩
  · obtain ⟨a, xs, j, v, rfl, _⟩ := h
    rfl
  · obtain ⟨a, xs, j, v, rfl, ha, hj, hl, hq⟩ := h
    refine ⟨_, rfl, _, rfl, _, rfl, a, xs, rfl, SqT.of ha, fun z => ?_, fun _ p hp => ?_⟩
    · exfalso
      have := z.2
      rw [six_nat] at this
      omega
    · rw [cut_pre]
      have sp : Same H (upd H p (.tup (xs.take j))) := same_laid hp
      have hP : (upd H p (.tup (xs.take j))) p = some (.tup (xs.take j)) := upd_same
      generalize upd H p (.tup (xs.take j)) = H1 at sp hP
      refine ⟨_, rfl, by show 1 ≤ sizeLine; rw [sizeLine_eq]; decide, fun q hq1 => ?_⟩
      have sq : Same H1 (upd H1 q (.tup [v])) := same_laid hq1
      have hQ : (upd H1 q (.tup [v])) q = some (.tup [v]) := upd_same
      generalize upd H1 q (.tup [v]) = H2 at sq hQ
      have rest : ∀ H3 r, Same H H3 → H3 r = some (.tup (xs.take j ++ [v])) → tSl (rSlA K) (tVar 0) (tPart (tOp (rI0 fun i j => .int (i + j)) (tVar 1) (fun σ H Q => Q (.int 1) H))) tNoPart [some (.ref a), some (.int (j : Int)), some v] H3 fun y H4 => rCatA K (.ref r) y H4 Q := fun H3 r s3 h3 => by
        refine ⟨_, rfl, _, rfl, _, _, rfl, rfl, _, rfl, a, xs, rfl, SqT.of (s3 _ _ ha), fun z => ?_, fun _ d hd => ?_⟩
        · exfalso
          have := z.1
          rw [show ((j : Int) + 1) = ((j + 1 : Nat) : Int) by omega, six_nat] at this
          omega
        · rw [cut_suf]
          have sd : Same H3 (upd H3 d (.tup (xs.drop (j + 1)))) := same_laid hd
          have hD : (upd H3 d (.tup (xs.drop (j + 1)))) d = some (.tup (xs.drop (j + 1))) := upd_same
          generalize upd H3 d (.tup (xs.drop (j + 1))) = H4 at sd hD
          have e : xs.set j v = xs.take j ++ [v] ++ xs.drop (j + 1) := by
            rw [List.set_eq_take_append_cons_drop, if_pos hj]
            simp
          refine ⟨r, d, _, _, rfl, rfl, SqT.of (sd _ _ h3), SqT.of hD, ?_, fun z => by simp at z, fun _ z2 => ?_, fun z _ u hu => ?_⟩
          · rw [List.length_append, List.length_take, List.length_drop, sizeLine_eq, List.length_singleton]
            omega
          · refine hq _ _ (s3.trans sd) ?_
            rw [e, z2, List.append_nil]
            exact sd _ _ h3
          · refine hq _ _ ((s3.trans sd).trans (same_laid hu)) ?_
            rw [e]
            exact upd_same
      refine ⟨p, q, _, _, rfl, rfl, SqT.of (sq _ _ hP), SqT.of hQ, ?_, fun z => ?_, fun z z2 => absurd z2 (by simp), fun z _ r hr3 => ?_⟩
      · rw [List.length_take, sizeLine_eq, List.length_singleton]
        omega
      · refine rest H2 q (sp.trans sq) ?_
        rw [z, List.nil_append]
        exact hQ
      · exact rest _ r ((sp.trans sq).trans (same_laid hr3)) upd_same
end
end T83

set_option Elab.async false
set_option linter.all false
set_option maxRecDepth 100000
set_option maxHeartbeats 2000000
namespace T83
open PySem PySem.Spec PyProof.Rows L2 RZ
/-- a machine, or none -/
inductive OM (H : Hp) : V → Option Mach → Prop
  | non : OM H .non none
  | m {v : V} {m : Mach} (h : Tp H v (dM m)) : OM H v (some m)
theorem ones_fm (cs : List Chc) : (cs.filterMap fun c => if c.2 = [] then some (PyData.int 1) else none) = [] ↔ ¬ ∃ c ∈ cs, c.2 = [] := by
  rw [List.filterMap_eq_nil_iff]
  refine ⟨fun h ⟨c, hc, e⟩ => ?_, fun h c hc => ?_⟩
  · have := h c hc
    rw [if_pos e] at this
    cases this
  · rw [if_neg fun e => h ⟨c, hc, e⟩]
theorem ones_lay (cs : List Chc) : SeqAt.shaped (.list (cs.filterMap fun c => if c.2 = [] then some (PyData.int 1) else none)) = true := by
  have h : ∀ cs : List Chc, PyData.canLayAll0 (cs.filterMap fun c => if c.2 = [] then some (PyData.int 1) else none) = true ∧ PyData.depthAll (cs.filterMap fun c => if c.2 = [] then some (PyData.int 1) else none) = 0 := fun cs => by
    induction cs with
    | nil => exact ⟨rfl, rfl⟩
    | cons c cs ih =>
      rw [List.filterMap_cons]
      by_cases e : c.2 = []
      · rw [if_pos e]
        show PyData.canLayAll0 (.int 1 :: _) = true ∧ PyData.depthAll (.int 1 :: _) = 0
        rw [PyData.canLayAll0, PyData.canLay0, PyData.depthAll, ih.1, ih.2]
        exact ⟨rfl, rfl⟩
      · rw [if_neg e]
        exact ih
  unfold SeqAt.shaped
  rw [PyData.canLay0, (h cs).1, PyData.depth, (h cs).2]
  rfl
section
variable {P : Program} {w : World} {K : PySem.W.Frag} {mg : Str → Option Value} {base : Heap}
/-! ### _law_rowed -/
abbrev sLRowed : Stmt := top 115
abbrev nLRowed : List Str := ["machine", "place", "row", "choice"]
theorem scLRowed : FnScope nLRowed ["machine", "place", "row"] (defScope sLRowed) := ⟨rfl, rfl, rfl, by decide +kernel, rfl, by decide +kernel, by decide +kernel⟩
def spLRowed (K : PySem.W.Frag) : Sp := fun vs H Q _ => ∃ x m j l ks, vs = [x, .int ((j : Nat) : Int), .ref l] ∧ Tp H x (dM m) ∧ j < m.2.length ∧ m.2.length ≤ 1000 ∧ H l = some (.lst (rf ks)) ∧ TC H ks ∧ ks.length ≤ 4 ∧ ∀ H' v, Same H H' → OM H' v (rowedP m j (ks.map (·.2))) → Q v H'
theorem ok_lrowed (F : Fx K mg) (D : At K mg "_law_rowed" sLRowed) (G : Cal P w K mg base CX0 1 "_law_put" ["values", "at", "value"] spLPut) : Cal P w K mg base CX0 2 "_law_rowed" ["machine", "place", "row"] (spLRowed K) := by
  refine cal_of D scLRowed (fun vs H Q E h => ?_) (fun _ _ _ _ _ _ us hl => match us, hl with | [_, _, _], _ => rfl) fun f cdv A outer s H vs Q E hr h => ⟨_, PSs.nox (pss_cons (ps_if (pw_or (pt_cmpR (op_eqD hr.units) (pv 2) (pe_lst pa_nil) (nomark _)) (pw_or (pt_cmpR op_lt (pe_callB cr_lenC (by rfl) (F.b "len" (by decide)) boot_len (pa_cons (pe_callTy (cr_setC rfl hr.units) (by rfl) (F.b "set" (by decide)) (by decide +kernel) (pa_cons (pv 2) pa_nil)) pa_nil)) (pe_callB call_len (by rfl) (F.b "len" (by decide)) boot_len (pa_cons (pv 2) pa_nil)) (nomark _))
      (pw_or1 (pt_cmpR (op_neD hr.units) (pe_lc (own := [("choice", 3)]) (g := gName 3) rfl scLRowed.nd (pi_list (pv 2)) (blkOk_by (N := nLRowed) (sc := defScope sLRowed) (by decide +kernel)) (fun _ _ _ _ _ => pg_name (i := 3) scLRowed.nd rfl (Or.inl rfl)) (fun _ _ _ _ _ => pts_one (pt_cmpR (show OpR _ (compareOp .Eq) (rEqD K) from op_eqD hr.units) (pe_ix (show IxR _ (rIxT K) from ix_tup) (pv 3) pe_int (fun _ _ => rfl)) (pe_tup pa_nil) (nomark _))) (fun _ _ _ _ _ => pe_int)) (pe_lst pa_nil) (nomark _))))).pt (pss_one (ps_ret pe_non)) pss_nil)
    (pss_one (ps_ret (pe_tup (pa_cons (pe_ix ix_tup (pv 0) pe_int (fun _ _ => rfl)) (pa_cons (pe_cal G hr (by rfl) pass0 (pa_cons (pe_ix ix_tup (pv 0) pe_int (fun _ _ => rfl)) (pa_cons (pv 1) (pa_cons (pe_callTy call_tuple_of (by rfl) (F.b "tuple" (by decide)) (by decide +kernel) (pa_cons (pe_callB (cr_sortC hr.units) (by rfl) (F.b "sorted" (by decide)) (by decide +kernel) (pa_cons (pv 2) pa_nil)) pa_nil)) pa_nil)))) pa_nil)))))), ?_⟩
  · obtain ⟨x, m, j, l, ks, rfl, _⟩ := h
    rfl
  · obtain ⟨x, m, j, l, ks, rfl, hx, hj, hml, hl, hk, hk4, hq⟩ := h
    refine ⟨_, rfl, by show 0 ≤ sizeLine; rw [sizeLine_eq]; decide, fun e0 he0 => ?_⟩
    have s1 : Same H (upd H e0 (.lst [])) := same_laid he0
    have hE : (upd H e0 (.lst [])) e0 = some (.lst []) := upd_same
    generalize upd H e0 (.lst []) = H1 at s1 hE
    have hdl : ∀ {H'}, Same H H' → Dp K H' (.ref l) (.list ((ks.map (·.2)).map dC)) := fun sm => .lst (SqL.of (sm _ _ hl)) (TpAll.dp (row_mk (tc_same sm hk)))
    refine ⟨_, _, hdl s1, .lst (SqL.of hE) .nil, cs_shaped _, by decide +kernel, _, rfl, ?_⟩
    rw [eqv_nil]
    by_cases h1 : (ks.map (·.2)).map dC = []
    · rw [decide_eq_true h1]
      refine iteT (iteT (hq _ _ s1 ?_))
      have e : ks.map (·.2) = [] := List.map_eq_nil_iff.mp h1
      unfold rowedP
      rw [if_pos (.inl e)]
      exact .non
    rw [decide_eq_false h1]
    have n1 : ks.map (·.2) ≠ [] := fun z => h1 (by rw [z]; rfl)
    refine iteF ⟨_, rfl, l, ks, rfl, SqL.of (s1 _ _ hl), tc_same s1 hk, hk4, fun a L ha hL1 hL2 hL3 => ⟨a, L, rfl, upd_same, ?_, ?_⟩⟩
    · exact fun q hq2 => ((tc_same s1 hk) q (hL1 q hq2)).keep (same_laid ha).tups
    have s2 : Same H (upd H1 a (SetC w a L)) := s1.trans (same_laid ha)
    have fi : (L.length < ks.length) ↔ ¬ (ks.map (·.2)).Nodup := by
      have := few_iff (l := L.map (·.2)) (m := ks.map (·.2)) hL3 (fun x hx => by
        obtain ⟨q, h1, rfl⟩ := List.mem_map.mp hx
        exact List.mem_map.mpr ⟨q, hL1 q h1, rfl⟩) (fun x hx => by
        obtain ⟨q, h1, rfl⟩ := List.mem_map.mp hx
        exact hL2 q h1)
      rwa [List.length_map, List.length_map] at this
    refine ⟨_, rfl, _, (rf ks).length, rfl, .inl ⟨_, SqL.of (s2 _ _ hl), rfl⟩, _, _, rfl, rfl, _, rfl, ?_⟩
    rw [List.length_map]
    by_cases h2 : L.length < ks.length
    · rw [decide_eq_true (by omega)]
      refine iteT (iteT (hq _ _ s2 ?_))
      unfold rowedP
      rw [if_pos (.inr (.inl (fi.mp h2)))]
      exact .non
    rw [decide_eq_false (by omega)]
    have n2 : (ks.map (·.2)).Nodup := Decidable.byContradiction fun z => h2 (fi.mpr z)
    refine iteF ⟨_, rfl, l, rfl, ⟨_, SqL.of (s2 _ _ hl)⟩, fun N hN => ?_⟩
    have krl : (rf ks).length = ks.length := List.length_map _
    refine lc_dat (n := (rf ks).length) walk_list (fun t => (ks[t]?).bind fun q => if q.2.2 = [] then some (.int 1) else none) (fun H' sm => SqL.of (sm _ _ (s2 _ _ hl))) (fun t H1 x H2 ht hY => by rw [hY.1]; exact Same.refl _) hN (by rw [krl, sizeLine_eq]; omega) (fun t x H3 H4 kk ht hY sm1 sm2 hk1 hk2 => ?_) (fun H3 ys hys hN3 s3 => ?_)
    · obtain ⟨rfl, hx⟩ := hY
      rw [List.getElem?_map] at hx
      obtain ⟨q, hqk, rfl⟩ := Option.map_eq_some_iff.mp hx
      rw [hqk] at hk1 hk2
      have hqT := (hk q (List.mem_of_getElem? hqk)).keep (s2.trans sm2).tups
      obtain ⟨b, y, e1, e2, e3⟩ := chc_of hqT
      refine ⟨rfl, _, rfl, b, _, 1, _, e1, rfl, SqT.of e2, rfl, by show 0 ≤ sizeLine; rw [sizeLine_eq]; decide, fun p hp => ?_⟩
      have sp : Same H4 (upd H4 p (.tup [])) := same_laid hp
      refine ⟨_, _, (e3.keep sp.tups).dp, .tup (SqT.of upd_same) .nil, prt_shaped _, by decide +kernel, _, rfl, ?_⟩
      have ee : PyData.eqv (dPr q.2.2) (.tuple []) = decide (q.2.2.map dQ = []) := eqv_nilT _
      rw [ee]
      by_cases h3 : q.2.2 = []
      · rw [decide_eq_true (by rw [h3]; rfl)]
        exact iteT (hk1 (.int 1) _ _ (if_pos h3) sp (.int 1))
      · rw [decide_eq_false (fun z => h3 (List.map_eq_nil_iff.mp z))]
        exact iteF (hk2 (if_neg h3) _ sp)
    · have s4 := s2.trans s3
      have efm : (List.range (rf ks).length).filterMap (fun t => (ks[t]?).bind fun q => if q.2.2 = [] then some (PyData.int 1) else none) = (ks.map (·.2)).filterMap fun c => if c.2 = [] then some (PyData.int 1) else none := by
        rw [krl, range_fm, List.filterMap_map]
        rfl
      rw [efm] at hys
      refine ⟨by show 0 ≤ sizeLine; rw [sizeLine_eq]; decide, fun e3 he3 => ?_⟩
      have s5 : Same H3 (upd H3 e3 (.lst [])) := same_laid he3
      refine ⟨_, _, .lst (SqL.of (s5 _ _ hN3)) (TpAll.dp (TpAll.keep s5.tups hys)), .lst (SqL.of upd_same) .nil, ones_lay _, by decide +kernel, ?_⟩
      rw [eqv_nil]
      by_cases h4 : ∃ c ∈ ks.map (·.2), c.2 = []
      · have : decide ((ks.map (·.2)).filterMap (fun c => if c.2 = [] then some (PyData.int 1) else none) = []) = false := decide_eq_false fun z => (ones_fm _).mp z h4
        rw [this]
        refine ⟨_, rfl, iteT (hq _ _ (s4.trans s5) ?_)⟩
        unfold rowedP
        rw [if_pos (.inr (.inr h4))]
        exact .non
      · have : decide ((ks.map (·.2)).filterMap (fun c => if c.2 = [] then some (PyData.int 1) else none) = []) = true := decide_eq_true ((ones_fm _).mpr h4)
        rw [this]
        have hno : rowedP m j (ks.map (·.2)) = some (setR m j (ks.map (·.2))) := by
          unfold rowedP
          rw [if_neg]
          rintro (z | z | z)
          · exact n1 z
          · exact z n2
          · exact h4 z
        rw [hno] at hq
        have s6 : Same H (upd H3 e3 (.lst [])) := s4.trans s5
        generalize upd H3 e3 (.lst []) = H6 at s6
        obtain ⟨a0, b0, xs, rfl, ha0, hb0, hxs⟩ := mach_of hx
        have xl : xs.length = m.2.length := by rw [hxs.len, List.length_map]
        refine ⟨_, rfl, iteF ⟨_, rfl, a0, _, 0, _, rfl, rfl, SqT.of (s6 _ _ ha0), rfl, _, rfl, a0, _, 1, _, rfl, rfl, SqT.of (s6 _ _ ha0), rfl, _, rfl, _, rfl, l, ks, rfl, SqL.of (s6 _ _ hl), tc_same s6 hk, fun p hp => ⟨p, _, rfl, .inl ⟨SqL.of upd_same, fun T hT => ?_⟩⟩⟩⟩
        have s7 : Same H6 (upd H6 p (.lst (rf (srt ks)))) := same_laid hp
        generalize upd H6 p (.lst (rf (srt ks))) = H7 at s7 hT
        have s8 : Same H7 (upd H7 T (.tup (rf (srt ks)))) := same_laid hT
        have hT8 : (upd H7 T (.tup (rf (srt ks)))) T = some (.tup (rf (srt ks))) := upd_same
        generalize upd H7 T (.tup (rf (srt ks))) = H8 at s8 hT8
        have sA := (s6.trans s7).trans s8
        refine ⟨b0, xs, j, .ref T, rfl, sA _ _ hb0, by omega, by omega, fun H9 c s9 hc => ⟨two_le2, fun M hM => ?_⟩⟩
        have s10 : Same H9 (upd H9 M (.tup [.str m.1, .ref c])) := same_laid hM
        refine hq _ _ ((sA.trans s9).trans s10) (.m (.tup upd_same (.cons (.str m.1) (.cons (.tup (s10 _ _ hc) ?_ (prtB_rows _)) .nil))))
        show TpAll _ (xs.set j (.ref T)) ((m.2.set j (srtC (ks.map (·.2)))).map dRow)
        rw [List.map_set, ← srt_map]
        exact TpAll.set (rowTp (s10 _ _ (s9 _ _ hT8)) (tc_same ((sA.trans s9).trans s10) (tc_srt hk))) (TpAll.keep ((sA.trans s9).trans s10).tups hxs)
end
end T83

set_option Elab.async false
set_option linter.all false
set_option maxRecDepth 100000
set_option maxHeartbeats 2000000
namespace T83
open PySem PySem.Spec PyProof.Rows L2 RZ
theorem fm_congr {α β : Type} {f g : α → Option β} : ∀ {l : List α}, (∀ a ∈ l, f a = g a) → l.filterMap f = l.filterMap g
  | [], _ => rfl
  | a :: l, h => by
    rw [List.filterMap_cons, List.filterMap_cons, h a List.mem_cons_self, fm_congr fun b hb => h b (List.mem_cons_of_mem _ hb)]
theorem fm_set (rs : List Chc) (i : Nat) (c : Chc) : ((List.range rs.length).filterMap fun t => if t = i then some (dC c) else (rs[t]?).map dC) = (rs.set i c).map dC := by
  have : ∀ t ∈ List.range rs.length, (if t = i then some (dC c) else (rs[t]?).map dC) = ((rs.set i c)[t]?).map dC := fun t ht => by
    have ht := List.mem_range.mp ht
    by_cases h : t = i
    · subst h
      rw [if_pos rfl, List.getElem?_set_self ht]
      rfl
    · rw [if_neg h, List.getElem?_set_ne (Ne.symm h)]
  rw [fm_congr this]
  have := range_fm (fun c => some (dC c)) (rs.set i c)
  rw [List.length_set] at this
  rw [show (rs.set i c).filterMap (fun c => some (dC c)) = (rs.set i c).map dC from congrFun (List.filterMap_eq_map (f := dC)) _] at this
  rw [← this]
  refine fm_congr fun t ht => ?_
  cases (rs.set i c)[t]? <;> rfl
section
variable {P : Program} {w : World} {K : PySem.W.Frag} {mg : Str → Option Value} {base : Heap}
/-! ### _law_priced -/
abbrev sLPriced : Stmt := top 112
abbrev nLPriced : List Str := ["machine", "place", "index", "number", "row", "at", "choice"]
theorem scLPriced : FnScope nLPriced ["machine", "place", "index", "number"] (defScope sLPriced) := ⟨rfl, rfl, rfl, by decide +kernel, rfl, by decide +kernel, by decide +kernel⟩
def spLPriced : Sp := fun vs H Q _ => ∃ x m j i r c n, vs = [x, .int ((j : Nat) : Int), .int ((i : Nat) : Int), .int n] ∧ Tp H x (dM m) ∧ m.2.length ≤ 1000 ∧ m.2[j]? = some r ∧ r.length ≤ 4 ∧ r[i]? = some c ∧ ∀ H' v, Same H H' → OM H' v (rowedP m j (r.set i (n, c.2))) → Q v H'
theorem ok_lpriced (F : Fx K mg) (D : At K mg "_law_priced" sLPriced) (G : Cal P w K mg base CX0 2 "_law_rowed" ["machine", "place", "row"] (spLRowed K)) : Cal P w K mg base CX0 3 "_law_priced" ["machine", "place", "index", "number"] spLPriced := by
  refine cal_of D scLPriced (fun vs H Q E h => ?_) (fun _ _ _ _ _ _ us hl => match us, hl with | [_, _, _, _], _ => rfl) fun f cdv A outer s H vs Q E hr h => ⟨_, PSs.nox (pss_cons (ps_setLc (i := 4) (own := [("choice", 6), ("at", 5)]) (g := gTup K 2 (gCons (gName 5) (gCons (gName 6) gNil))) rfl scLPriced.nd rfl rfl (sw_true rfl rfl rfl (by decide +kernel)) (pi_enumA (by rfl) (F.b "enumerate" (by decide)) (pa_cons (pe_ix ix_tup (pe_ix ix_tup (pv 0) pe_int (fun _ _ => rfl)) (pv 1) (fun _ _ => rfl)) pa_nil)) (blkOk_by (N := nLPriced) (sc := defScope sLPriced) (by decide +kernel))
        (fun _ _ _ _ _ => pg_tup rfl (pgs_cons (pg_name (i := 5) scLPriced.nd rfl (Or.inl rfl)) (pgs_cons (pg_name (i := 6) scLPriced.nd rfl (Or.inl rfl)) pgs_nil))) (fun _ _ _ _ _ => pts_nil) (fun _ _ _ _ _ => pe_ifExp (pt_cmpR op_eq (pv 5) (pv 2) (nomark _)) (pe_tup (pa_cons (pv 3) (pa_cons (pe_ix (show IxR _ (rIxT K) from ix_tup) (pv 6) pe_int (fun _ _ => rfl)) pa_nil))) (pv 6)))
    (pss_one (ps_ret (pe_cal G hr (by rfl) pass0 (pa_cons (pv 0) (pa_cons (pv 1) (pa_cons (pv 4) pa_nil))))))), ?_⟩
  · obtain ⟨x, m, j, i, r, c, n, rfl, _⟩ := h
    rfl
  · obtain ⟨x, m, j, i, r, c, n, rfl, hx, hml, hrj, hr4, hci, hq⟩ := h
    obtain ⟨a, b, xs, rfl, ha, hbb, hxs⟩ := mach_of hx
    obtain ⟨bb, ks, e1, hkr, hbk, hk⟩ := rowAt hxs hrj
    subst hkr
    have hjl : j < m.2.length := (List.getElem?_eq_some_iff.mp hrj).1
    refine ⟨_, rfl, a, _, 1, _, rfl, rfl, SqT.of ha, rfl, _, rfl, b, _, (j : Int), _, rfl, rfl, SqT.of hbb, atI_nat e1, bb, rf ks, rfl, .inr ⟨SqT.of hbk, fun l hl => ?_⟩⟩
    have krl : (rf ks).length = ks.length := List.length_map _
    have hkl : ks.length ≤ 4 := by rw [List.length_map] at hr4; exact hr4
    have hil : i < ks.length := by have := (List.getElem?_eq_some_iff.mp hci).1; rw [List.length_map] at this; exact this
    refine lc_dat (n := (rf ks).length) walk_enumT (fun t => if t = i then some (dC (n, c.2)) else ((ks.map (·.2))[t]?).map dC) (fun H' s => SqT.of (s _ _ hbk)) (fun t H1 x H2 ht hY => ?_) hl (by rw [krl, sizeLine_eq]; omega) (fun t x H1 H2 kk ht hY sm1 sm2 hk1 hk2 => ?_) (fun H2 ys hys hL s2 => ?_)
    · obtain ⟨T0, x1, x2, rfl, hT, rfl, _⟩ := hY
      exact same_laid hT
    · obtain ⟨T0, x1, x2, rfl, hT, rfl, q1, q2⟩ := hY
      cases q1
      have q2' : (ks.map fun p => V.ref p.1)[t]? = some x2 := q2
      rw [List.getElem?_map] at q2'
      obtain ⟨kc, hkc, rfl⟩ := Option.map_eq_some_iff.mp q2'
      rw [List.getElem?_map, hkc] at hk1
      have hkT := (hk kc (List.mem_of_getElem? hkc)).keep sm2.tups
      refine ⟨T0, _, rfl, SqT.of upd_same, rfl, _, _, rfl, _, _, rfl, rfl, rfl, lc_yes ⟨_, rfl, _, rfl, rfl, _, rfl, ?_⟩⟩
      by_cases hti : t = i
      · have e : decide (V.int ((t : Nat) : Int) = V.int ((i : Nat) : Int)) = true := decide_eq_true (by rw [hti])
        rw [e]
        obtain ⟨bq, y, e2, e3, e4⟩ := chc_of hkT
        have ecc : kc.2 = c := by
          have h1 : (ks.map (·.2))[t]? = some kc.2 := by rw [List.getElem?_map, hkc]; rfl
          rw [hti, hci] at h1
          injection h1 with h1
          exact h1.symm
        rw [ecc] at e4
        refine iteT ⟨_, rfl, _, rfl, bq, _, 1, _, e2, rfl, SqT.of e3, rfl, two_le2, fun M hM => ?_⟩
        have sM : Same _ (upd _ M (.tup [V.int n, y])) := same_laid hM
        exact hk1 _ _ _ (if_pos hti) sM (.tup upd_same (.cons (.int n) (.cons (e4.keep sM.tups) .nil)))
      · have e : decide (V.int ((t : Nat) : Int) = V.int ((i : Nat) : Int)) = false := decide_eq_false (fun q => hti (by injection q with q; omega))
        rw [e]
        exact iteF ⟨_, rfl, hk1 _ _ _ (if_neg hti) (Same.refl _) hkT⟩
    · have e9 : (rf ks).length = (ks.map (·.2)).length := by rw [krl, List.length_map]
      rw [e9, fm_set] at hys
      obtain ⟨ks2, ek2, rfl, hk2⟩ := row_of hys
      rw [← ek2] at hq
      have hkl2 : ks2.length = ks.length := by
        have := congrArg List.length ek2
        rw [List.length_map, List.length_set, List.length_map] at this
        exact this
      refine ⟨_, rfl, _, rfl, _, rfl, .ref a, m, j, l, ks2, rfl, hx.keep s2.tups, hjl, hml, hL, hk2, by omega, fun H' v s3 hv => hq H' v (s2.trans s3) hv⟩
/-! ### _law_lessened -/
abbrev sLLess : Stmt := top 114
abbrev nLLess : List Str := ["machine", "place", "index", "at", "choice"]
theorem scLLess : FnScope nLLess ["machine", "place", "index"] (defScope sLLess) := ⟨rfl, rfl, rfl, by decide +kernel, rfl, by decide +kernel, by decide +kernel⟩
def spLLess : Sp := fun vs H Q _ => ∃ x m j i r, vs = [x, .int ((j : Nat) : Int), .int ((i : Nat) : Int)] ∧ Tp H x (dM m) ∧ m.2.length ≤ 1000 ∧ m.2[j]? = some r ∧ r.length ≤ 4 ∧ ∀ H' v, Same H H' → OM H' v (rowedP m j (r.eraseIdx i)) → Q v H'
theorem ok_llessened (F : Fx K mg) (D : At K mg "_law_lessened" sLLess) (G : Cal P w K mg base CX0 2 "_law_rowed" ["machine", "place", "row"] (spLRowed K)) : Cal P w K mg base CX0 3 "_law_lessened" ["machine", "place", "index"] spLLess := by
  refine cal_of D scLLess (fun vs H Q E h => ?_) (fun _ _ _ _ _ _ us hl => match us, hl with | [_, _, _], _ => rfl) fun f cdv A outer s H vs Q E hr h => ⟨_, PSs.nox (pss_one (ps_ret (pe_cal G hr (by rfl) pass0 (pa_cons (pv 0) (pa_cons (pv 1) (pa_cons (pe_lc (own := [("choice", 4), ("at", 3)]) (g := gTup K 2 (gCons (gName 3) (gCons (gName 4) gNil))) rfl scLLess.nd (pi_enumA (by rfl) (F.b "enumerate" (by decide)) (pa_cons (pe_ix ix_tup (pe_ix ix_tup (pv 0) pe_int (fun _ _ => rfl)) (pv 1) (fun _ _ => rfl)) pa_nil)) (blkOk_by (N := nLLess) (sc := defScope sLLess) (by decide +kernel))
        (fun _ _ _ _ _ => pg_tup rfl (pgs_cons (pg_name (i := 3) scLLess.nd rfl (Or.inl rfl)) (pgs_cons (pg_name (i := 4) scLLess.nd rfl (Or.inl rfl)) pgs_nil))) (fun _ _ _ _ _ => pts_one (pt_cmpR op_ne (pv 3) (pv 2) (nomark _))) (fun _ _ _ _ _ => pv 4)) pa_nil)))))), ?_⟩
  · obtain ⟨x, m, j, i, r, rfl, _⟩ := h
    rfl
  · obtain ⟨x, m, j, i, r, rfl, hx, hml, hrj, hr4, hq⟩ := h
    obtain ⟨a, b, xs, rfl, ha, hbb, hxs⟩ := mach_of hx
    obtain ⟨bb, ks, e1, hkr, hbk, hk⟩ := rowAt hxs hrj
    subst hkr
    have hjl : j < m.2.length := (List.getElem?_eq_some_iff.mp hrj).1
    refine ⟨_, rfl, _, rfl, _, rfl, a, _, 1, _, rfl, rfl, SqT.of ha, rfl, _, rfl, b, _, (j : Int), _, rfl, rfl, SqT.of hbb, atI_nat e1, bb, rf ks, rfl, .inr ⟨SqT.of hbk, fun l hl => ?_⟩⟩
    have krl : (rf ks).length = ks.length := List.length_map _
    have hkl : ks.length ≤ 4 := by rw [List.length_map] at hr4; exact hr4
    refine lc_dat (n := (rf ks).length) walk_enumT (fun t => if t = i then none else (ks[t]?).map fun q => dC q.2) (fun H' s => SqT.of (s _ _ hbk)) (fun t H1 x H2 ht hY => ?_) hl (by rw [krl, sizeLine_eq]; omega) (fun t x H1 H2 kk ht hY sm1 sm2 hk1 hk2 => ?_) (fun H2 ys hys hL s2 => ?_)
    · obtain ⟨T0, x1, x2, rfl, hT, rfl, _⟩ := hY
      exact same_laid hT
    · obtain ⟨T0, x1, x2, rfl, hT, rfl, q1, q2⟩ := hY
      cases q1
      have q2' : (ks.map fun p => V.ref p.1)[t]? = some x2 := q2
      rw [List.getElem?_map] at q2'
      obtain ⟨kc, hkc, rfl⟩ := Option.map_eq_some_iff.mp q2'
      rw [hkc] at hk1 hk2
      refine ⟨T0, _, rfl, SqT.of upd_same, rfl, _, _, rfl, _, _, rfl, rfl, rfl, _, rfl, _, rfl, rfl, ?_⟩
      refine ⟨_, rfl, ?_⟩
      by_cases hti : t = i
      · have e : (!decide (V.int ((t : Nat) : Int) = V.int ((i : Nat) : Int))) = false := by rw [decide_eq_true (by rw [hti])]; rfl
        rw [e]
        exact iteF (hk2 (if_pos hti) _ (Same.refl _))
      · have e : (!decide (V.int ((t : Nat) : Int) = V.int ((i : Nat) : Int))) = true := by rw [decide_eq_false (fun q => hti (by injection q with q; omega))]; rfl
        rw [e]
        exact iteT ⟨_, rfl, hk1 _ _ _ (if_neg hti) (Same.refl _) ((hk kc (List.mem_of_getElem? hkc)).keep sm2.tups)⟩
    · rw [krl, fm_erase] at hys
      obtain ⟨ks2, ek2, rfl, hk2⟩ := row_of hys
      rw [← ek2] at hq
      have hkl2 : ks2.length ≤ ks.length := by
        have := congrArg List.length ek2
        rw [List.length_map] at this
        have h2 := List.length_eraseIdx_le (ks.map (·.2)) i
        rw [List.length_map] at h2
        omega
      exact ⟨.ref a, m, j, l, ks2, rfl, hx.keep s2.tups, hjl, hml, hL, hk2, by omega, fun H' v s3 hv => hq H' v (s2.trans s3) hv⟩
end
end T83

set_option Elab.async false
set_option linter.all false
set_option maxRecDepth 100000
set_option maxHeartbeats 2000000
/-! dict of a tuple of pairs -/
namespace T83
open PySem PySem.Spec PyProof.Rows L2
section
variable {X : Cx}
theorem pairs_ofV {pins : List (Addr × Obj)} {σ : L2.St} {H : Hp} {s : Shared} (I : Inv X pins σ H s) : ∀ {ps : List Addr} {kvs : List (Key × V)}, Paired (fun p kv => SqT X.K H p [kV kv.1, kv.2]) ps kvs →
    ∃ L : List (Value × Key × Value), KV kvs (L.map (·.2)) ∧ L.length = ps.length ∧ ∀ (j : Nat) (x : Value × Key × Value), L[j]? = some x → ∃ b, ps[j]? = some b ∧ IsTup s.heap b #[x.1, x.2.2] ∧ keyIs x.2.1 x.1 = true
  | _, _, .nil => ⟨[], .nil, rfl, fun j q e => by simp at e⟩
  | _, _, .cons (a := p) (b := kv) h t => by
    obtain ⟨L, r, hl, hp⟩ := pairs_ofV I t
    obtain ⟨its, rv, ht, _⟩ := I.tuple h
    obtain ⟨u, y, ei, ru, ry⟩ := vals2 rv
    subst ei
    refine ⟨(u, kv.1, y) :: L, .cons ⟨rfl, ry⟩ r, by rw [List.length_cons, List.length_cons, hl], fun j q e => ?_⟩
    cases j with
    | zero =>
      have e' : (u, kv.1, y) = q := Option.some.inj e
      subst e'
      exact ⟨p, rfl, ht, kV_is (P := X.prog) (w := X.w) ru⟩
    | succ j =>
      obtain ⟨b, e1, e2, e3⟩ := hp j q (by simpa using e)
      exact ⟨b, by simpa using e1, e2, e3⟩
/-- dict(t) of a tuple of pairs -/
theorem call_dictT (hcalm : X.calm = true) : CallR X (.type "dict") (fun xs H Q => ∃ (a : Addr) (ps : List Addr) (kvs : List (Key × V)), xs = [.ref a] ∧ Pt H a (ps.map V.ref) ∧ Paired (fun p kv => SqT X.K H p [kV kv.1, kv.2]) ps kvs ∧
    ∀ p, H p = none → Q (.ref p) (upd H p (.dK (mergeK [] kvs)))) := by
  intro pins s σ H xs us Q I r q
  obtain ⟨a, ps, kvs, ex, ⟨o, hd, hq⟩, hp, q⟩ := q
  subst ex
  obtain ⟨u, eu, rx⟩ := vals1 r
  subst eu
  cases rx
  obtain ⟨ho, hz, its, rv, ⟨o', ho', hc, n, hdat⟩⟩ := I.hok a _ hq
  rw [ho] at ho'
  cases ho'
  have ei := refs_at rv
  subst ei
  rw [List.length_map] at hz
  obtain ⟨L, rel, hl, hpr⟩ := pairs_ofV I hp
  have P := PairArg.tuple (prog := X.prog) (w := X.w) a (ps.map Value.ref).toArray (fun j => ps.getD j 0) (L.map fun x => (x.1, x.2.2))
  refine call_dict_pairs (knd := mixKind X.prog X.w) (kvs := L.map (·.2)) P (I.ok.hd hcalm) ⟨⟨o, n, ho, hc, hd, hdat⟩, by simp [hl], fun j k v e => ?_⟩ ⟨by simp, fun i key v e => ?_⟩ (by rw [List.length_map, hl]; exact hz) fun h' tk hd' k => ?_
  · rw [List.getElem?_map] at e
    obtain ⟨x, ex, e2⟩ := Option.map_eq_some_iff.mp e
    cases e2
    obtain ⟨b, e1, e2, e3⟩ := hpr j x ex
    have eb : ps.getD j 0 = b := by rw [List.getD_eq_getElem?_getD, e1]; rfl
    refine ⟨?_, .inl ?_⟩
    · show (ps.map Value.ref).toArray[j]? = some (Value.ref (ps.getD j 0))
      rw [eb]
      simp [e1]
    · show s.heap.IsTuple (ps.getD j 0) _
      rw [eb]
      exact e2
  · have e : (L.map fun x => (x.1, x.2.2))[i]? = some (key, v) := e
    rw [List.getElem?_map] at e
    obtain ⟨x, ex, e2⟩ := Option.map_eq_some_iff.mp e
    cases e2
    obtain ⟨b, e1, e2, e3⟩ := hpr i x ex
    exact ⟨x.2.1, by rw [List.getElem?_map, ex]; rfl, e3⟩
  · have hm : (s.heap.objs.size == sysModules) = false := beq_eq_false_iff_ne.mpr (Nat.ne_of_gt I.big)
    have hlen : (mergeK [] kvs).length ≤ sizeLine := by
      refine Nat.le_trans (length_mergeK kvs []) ?_
      rw [List.length_nil, Nat.zero_add, rel.length, List.length_map, hl]
      exact hz
    exact ⟨.ref s.heap.objs.size, upd H s.heap.objs.size (.dK (mergeK [] kvs)), I.laid (t' := tk) (fun b o e => k b o (by simp) e) (Nat.le_refl _) (show ObjOk X.prog X.w _ _ _ (.dK (mergeK [] kvs)) from ⟨hlen, hm, merged [] (L.map (·.2)), KV.merge rel .nil, hd'⟩), rfl, q _ (I.hok.fresh (Nat.le_refl _))⟩
end
end T83

set_option Elab.async false
set_option linter.all false
set_option maxRecDepth 100000
set_option maxHeartbeats 2000000
namespace T83
open PySem PySem.Spec PyProof.Rows L2 RZ
theorem gcd_filter : ∀ (ps : Prt) (g : Nat), (∀ q ∈ ps, 0 ≤ q.2) → (ps.filter fun q => decide (0 < q.2)).foldl (fun g q => Nat.gcd g q.2.natAbs) g = ps.foldl (fun g q => Nat.gcd g q.2.natAbs) g
  | [], _, _ => rfl
  | q :: ps, g, h => by
    have h1 := h q List.mem_cons_self
    have ih := fun g => gcd_filter ps g fun q hq => h q (List.mem_cons_of_mem _ hq)
    rw [List.filter_cons, List.foldl_cons]
    by_cases e : 0 < q.2
    · rw [decide_eq_true e, if_pos rfl, List.foldl_cons]
      exact ih _
    · have e0 : q.2 = 0 := by omega
      rw [decide_eq_false e, if_neg (by decide), ih, e0]
      show _ = ps.foldl _ (Nat.gcd g (0 : Int).natAbs)
      rw [show (0 : Int).natAbs = 0 from rfl, Nat.gcd_zero_right]
theorem left_all (D : Prt) : leftD D = (allD D).filter fun q => decide (0 < q.2) := by
  unfold leftD allD
  rw [List.filter_map]
  rfl
theorem gcd_left {D : Prt} (nd : (D.map (·.1)).Nodup) (h : ∀ q ∈ D, 0 ≤ q.2) : gcdL (leftD D) = gcdL D := by
  have hp := allD_perm nd
  rw [left_all, ← gcdL_perm hp]
  exact gcd_filter _ 0 fun q hq => h q (hp.mem_iff.mp hq)
/-- the parts that are told: law's way -/
theorem parts_law {D : Prt} (nd : (D.map (·.1)).Nodup) (h : ∀ q ∈ D, 0 ≤ q.2) :
    ((keysD D).filterMap fun k => if 0 < lookD D k then some (dQ (k, (lookD D k).fdiv ((max 1 (gcdL D) : Nat) : Int))) else none) = (partsD D).map dQ := by
  have e : ∀ l : List Int, (∀ k ∈ l, 0 < lookD D k → k ∈ keysD D) → (l.filterMap fun k => if 0 < lookD D k then some (dQ (k, (lookD D k).fdiv ((max 1 (gcdL D) : Nat) : Int))) else none) = ((overG (gcdL (leftD D)) ((l.filter fun k => decide (0 < lookD D k)).map fun k => (k, lookD D k))).map dQ) := fun l hl => by
    induction l with
    | nil => rfl
    | cons k l ih =>
      have ih := ih fun x hx => hl x (List.mem_cons_of_mem _ hx)
      rw [List.filterMap_cons, List.filter_cons]
      by_cases hk : 0 < lookD D k
      · rw [if_pos hk, decide_eq_true hk, if_pos rfl]
        have hm : (k, lookD D k) ∈ leftD D := by
          unfold leftD
          exact List.mem_map.mpr ⟨k, List.mem_filter.mpr ⟨hl k List.mem_cons_self hk, decide_eq_true hk⟩, rfl⟩
        have hg : 0 < gcdL (leftD D) := by
          refine gcdL_pos (fun z => ?_) fun q hq => (left_pos hq).1
          rw [z] at hm
          cases hm
        have e2 : max 1 (gcdL D) = gcdL (leftD D) := by
          rw [gcd_left nd h] at hg ⊢
          omega
        rw [e2] at ih ⊢
        show dQ _ :: _ = dQ _ :: _
        rw [ih]
        rfl
      · rw [if_neg hk, decide_eq_false hk, if_neg (by decide)]
        exact ih
  exact e (keysD D) fun k hk _ => hk
theorem merge_eD {ps : Prt} (nd : (ps.map (·.1)).Nodup) : mergeK [] (eD ps) = eD ps := by
  have : ∀ i, i ≤ ps.length → mergeK [] (eD (ps.take i)) = eD (ps.take i) := fun i => by
    induction i with
    | zero => intro _; rfl
    | succ i ih =>
      intro hi
      have hq : ps[i]? = some ps[i] := List.getElem?_eq_getElem (by omega)
      have e : ps.take (i + 1) = ps.take i ++ [ps[i]] := by rw [List.take_add_one, hq]; rfl
      have := ih (by omega)
      have h2 : mergeK [] (eD (ps.take (i + 1))) = putK (mergeK [] (eD (ps.take i))) (Sum.inl ps[i].1) (V.int ps[i].2) := by
        rw [e]
        unfold mergeK eD
        rw [List.map_append, List.foldl_append]
        rfl
      rw [h2, this, eD_snoc nd hq]
  have h := this ps.length (Nat.le_refl _)
  rwa [List.take_length] at h
theorem paired_prt {K : PySem.W.Frag} {H : Hp} : ∀ {ps : Prt} {xs : List V}, TpAll H xs (ps.map dQ) → ∃ as : List Addr, xs = as.map V.ref ∧ Paired (fun p (kv : Key × V) => SqT K H p [kV kv.1, kv.2]) as (eD ps)
  | [], _, h => by
    cases h
    exact ⟨[], rfl, .nil⟩
  | q :: ps, _, h => by
    cases h with
    | cons h1 h2 =>
      obtain ⟨as, rfl, hp⟩ := paired_prt (K := K) h2
      obtain ⟨b, rfl, hb⟩ := pair_of h1
      exact ⟨b :: as, rfl, .cons (SqT.of hb) hp⟩
theorem prt_at {H : Hp} {y : V} {ps : Prt} (h : Tp H y (dPr ps)) (hne : ps ≠ []) : ∃ (b : Addr) (xs : List V), y = .ref b ∧ Pt H b xs ∧ TpAll H xs (ps.map dQ) := by
  cases h with
  | @tup b xs _ h k n =>
    cases ps with
    | nil => exact absurd rfl hne
    | cons q ps => exact absurd (show true = false from n) (by decide)
  | @prt b xs _ h k _ => exact ⟨b, xs, rfl, h, k⟩
end T83

set_option Elab.async false
set_option linter.all false
set_option maxRecDepth 100000
set_option maxHeartbeats 2000000
namespace T83
open PySem PySem.Spec PyProof.Rows L2 RZ
section
variable {P : Program} {w : World} {K : PySem.W.Frag} {mg : Str → Option Value} {base : Heap}
/-! ### _law_parted -/
abbrev sLParted : Stmt := top 113
abbrev nLParted : List Str := ["machine", "place", "index", "goal", "number", "row", "found", "common", "one", "parts"]
theorem scLParted : FnScope nLParted ["machine", "place", "index", "goal", "number"] (defScope sLParted) := ⟨rfl, rfl, rfl, by decide +kernel, rfl, by decide +kernel, by decide +kernel⟩
def spLParted : Sp := fun vs H Q _ => ∃ x m j i r c g n, vs = [x, .int ((j : Nat) : Int), .int ((i : Nat) : Int), .int g, .int n] ∧ Tp H x (dM m) ∧ m.2.length ≤ 1000 ∧ m.2[j]? = some r ∧ r.length ≤ 4 ∧ r[i]? = some c ∧ Prs c.2 ∧ c.2 ≠ [] ∧ 0 ≤ n ∧ n ≤ 10 ^ 6 ∧ ∀ H' v, Same H H' → OM H' v (rowedP m j (r.set i (withP c g n))) → Q v H'
theorem ok_lparted (F : Fx K mg) (D : At K mg "_law_parted" sLParted) (G : Cal P w K mg base CX0 2 "_law_rowed" ["machine", "place", "row"] (spLRowed K)) (G3 : Cal P w K mg base CX0 1 "_law_common" ["one", "other"] spCommon) : Cal P w K mg base CX0 3 "_law_parted" ["machine", "place", "index", "goal", "number"] spLParted := by
  refine cal_of D scLParted (fun vs H Q E h => ?_) (fun _ _ _ _ _ _ us hl => match us, hl with | [_, _, _, _, _], _ => rfl) fun f cdv A outer s H vs Q E hr h => ⟨_, PSs.nox (pss_cons (ps_asg (pe_tup (pa_cons (pe_callTy call_list_of (by rfl) (F.b "list" (by decide)) (by decide +kernel) (pa_cons (pe_ix ix_tup (pe_ix ix_tup (pv 0) pe_int (fun _ _ => rfl)) (pv 1) (fun _ _ => rfl)) pa_nil))
        (pa_cons (pe_callTy (call_dictT rfl) (by rfl) (F.b "dict" (by decide)) (by decide +kernel) (pa_cons (pe_ix ix_tup (pe_ix ix_tup (pe_ix ix_tup (pe_ix ix_tup (pv 0) pe_int (fun _ _ => rfl)) (pv 1) (fun _ _ => rfl)) (pv 2) (fun _ _ => rfl)) pe_int (fun _ _ => rfl)) pa_nil)) pa_nil))) (pg_tup (n := 2) rfl (pgs_cons (pg_name (i := 5) scLParted.nd rfl (Or.inl rfl)) (pgs_cons (pg_name (i := 6) scLParted.nd rfl (Or.inr rfl)) pgs_nil))))
    (pss_cons (ps_dput (hu_of hr) (pv 6) (pv 3) (pv 4) rfl)
    (pss_cons (ps_set (i := 7) scLParted.nd rfl (Or.inr rfl) pe_int)
    (pss_cons (ps_lock (ps_for PassesOwn.never rfl (pi_keys (pv 6)) (pg_name (i := 8) scLParted.nd rfl (Or.inl rfl)) (pss_one (ps_set (i := 7) scLParted.nd rfl (Or.inr rfl) (pe_cal G3 (hr.mono (by decide)) (by rfl) pass0 (pa_cons (pv 7) (pa_cons (pe_dget (hu_of hr) (pv 6) (pv 8) (fun _ _ => rfl)) pa_nil)))))))
    (pss_cons (ps_set (i := 9) scLParted.nd rfl (Or.inl rfl) (pe_callTy call_tupleF (by rfl) (F.b "tuple" (by decide)) (by decide +kernel) (pa_cons (pe_lc (own := [("one", 8)]) (g := gName 8) rfl scLParted.nd (pi_list (pe_callB (call_sortedDI rfl) (by rfl) (F.b "sorted" (by decide)) (by decide +kernel) (pa_cons (pv 6) pa_nil))) (blkOk_by (N := nLParted) (sc := defScope sLParted) (by decide +kernel))
        (fun _ _ _ _ _ => pg_name (i := 8) scLParted.nd rfl (Or.inl rfl)) (fun _ _ _ _ _ => pts_one (pt_cmpR op_gt (pe_dget (hu_of hr) (pv 6) (pv 8) (fun _ _ => rfl)) pe_int (nomark _))) (fun _ _ _ _ _ => pe_tup (pa_cons (pv 8) (pa_cons (pe_op op_fdivN (pe_dget (hu_of hr) (pv 6) (pv 8) (fun _ _ => rfl)) (pe_callB (call_max2 rfl) (by rfl) (F.b "max" (by decide)) (by decide +kernel) (pa_cons pe_int (pa_cons (pv 7) pa_nil)))) pa_nil)))) pa_nil)))
    (pss_cons (ps_asg (pe_tup (pa_cons (pe_ix ix_tup (pe_ix ix_list (pv 5) (pv 2) (fun _ _ => rfl)) pe_int (fun _ _ => rfl)) (pa_cons (pv 9) pa_nil))) (pg_sub (pv 5) (pv 2) set_list))
    (pss_one (ps_ret (pe_cal G hr (by rfl) pass0 (pa_cons (pv 0) (pa_cons (pv 1) (pa_cons (pv 5) pa_nil)))))))))))), ?_⟩
  · obtain ⟨x, m, j, i, r, c, g, n, rfl, _⟩ := h
    rfl
  · obtain ⟨x, m, j, i, r, c, g, n, rfl, hx, hml, hrj, hr4, hci, hps, hne, hn0, hn1, hq⟩ := h
    obtain ⟨a, b, xs, rfl, ha, hbb, hxs⟩ := mach_of hx
    obtain ⟨bb, ks, e1, hkr, hbk, hk⟩ := rowAt hxs hrj
    subst hkr
    have hjl : j < m.2.length := (List.getElem?_eq_some_iff.mp hrj).1
    have hkl : ks.length ≤ 4 := by rw [List.length_map] at hr4; exact hr4
    rw [List.getElem?_map] at hci
    obtain ⟨kc, hkc, rfl⟩ := Option.map_eq_some_iff.mp hci
    have hil : i < ks.length := (List.getElem?_eq_some_iff.mp hkc).1
    have hkT := hk kc (List.mem_of_getElem? hkc)
    obtain ⟨bq, y, e2, e3, e4⟩ := chc_of hkT
    obtain rfl : kc.1 = bq := by injection e2
    obtain ⟨yb, ys, rfl, hyb, hys⟩ := prt_at e4 hne
    have ei : (rf ks)[i]? = some (.ref kc.1) := by rw [List.getElem?_map, hkc]; rfl
    refine ⟨_, rfl, a, _, 1, _, rfl, rfl, SqT.of ha, rfl, _, rfl, b, _, (j : Int), _, rfl, rfl, SqT.of hbb, atI_nat e1, bb, rf ks, rfl, .inr (SqT.of hbk), fun l hl => ?_⟩
    have s1 : Same H (upd H l (.lst (rf ks))) := same_laid hl
    have hl1 : (upd H l (.lst (rf ks))) l = some (.lst (rf ks)) := upd_same
    generalize upd H l (.lst (rf ks)) = H1 at s1 hl1
    obtain ⟨as, rfl, hpr⟩ := paired_prt (K := K) (hys.keep s1.tups)
    refine ⟨_, rfl, a, _, 1, _, rfl, rfl, SqT.of (s1 _ _ ha), rfl, _, rfl, b, _, (j : Int), _, rfl, rfl, SqT.of (s1 _ _ hbb), atI_nat e1, _, rfl, bb, _, (i : Int), _, rfl, rfl, SqT.of (s1 _ _ hbk), atI_nat ei, kc.1, _, 1, _, rfl, rfl, SqT.of (s1 _ _ e3), rfl, yb, as, eD kc.2.2, rfl, hyb.keep s1.tups, hpr, fun d hd => ?_⟩
    rw [merge_eD hps.nd]
    have hld : l ≠ d := ne_of_none hl1 hd
    have sd : Same H1 (upd H1 d (.dK (eD kc.2.2))) := same_laid hd
    have hd2 : (upd H1 d (.dK (eD kc.2.2))) d = some (.dK (eD kc.2.2)) := upd_same
    have hdH : H d = none := s1.free hd
    generalize upd H1 d (.dK (eD kc.2.2)) = H2 at sd hd2
    refine ⟨two_le2, fun t ht => ?_⟩
    have st : Same H2 (upd H2 t (.tup [.ref l, .ref d])) := same_laid ht
    refine ⟨t, _, rfl, SqT.of upd_same, rfl, _, _, rfl, _, _, rfl, rfl, ?_⟩
    have sH : Same H (upd H2 t (.tup [.ref l, .ref d])) := (s1.trans sd).trans st
    have hl2 := st _ _ (sd _ _ hl1)
    have hd3 := st _ _ hd2
    generalize upd H2 t (.tup [V.ref l, V.ref d]) = H3 at sH hl2 hd3
    refine ⟨_, rfl, _, rfl, _, rfl, d, _, rfl, DPut.k (k := Sum.inl g) hd3 (by have := hps.few; rw [List.length_map, sizeLine_eq]; omega), ?_⟩
    rw [eD_put]
    generalize hDe : putA kc.2.2 g n = D
    have hnd : (D.map (·.1)).Nodup := by
      rw [← hDe]
      exact putA_nodup hps.nd
    have hval : ∀ q ∈ D, 0 ≤ q.2 ∧ q.2 ≤ 10 ^ 6 := fun q hq => by
      rw [← hDe] at hq
      rcases mem_put hq with z | z
      · exact hps.val q z
      · rw [z]
        exact ⟨hn0, hn1⟩
    have hlenD : D.length ≤ 21 := by
      have := putA_len (d := kc.2.2) (g := g) (n := n)
      have h2 := hps.few
      rw [hDe] at this
      omega
    have k4 : Same H (upd H3 d (.dK (eD D))) := fun b o e => by
      rw [upd_ne (ne_of_none e hdH)]
      exact sH _ _ e
    have hl4 : (upd H3 d (.dK (eD D))) l = some (.lst (rf ks)) := by
      rw [upd_ne hld]
      exact hl2
    have hD4 : (upd H3 d (.dK (eD D))) d = some (.dK (eD D)) := upd_same
    generalize upd H3 d (.dK (eD D)) = H4 at k4 hl4 hD4
    refine ⟨d, .dK (eD D), hD4, True.intro, fun od => ?_⟩
    have hdo : (upd H4 d (.frz od (.dK (eD D)))) d = some (.frz od (.dK (eD D))) := upd_same
    refine ⟨_, rfl, d, od, rfl, .inl ⟨eD D, hdo, ?_⟩⟩
    have edl : (eD D).length = D.length := List.length_map _
    refine for_it (n := (eD D).length) walk_keys (fun q σ H' => (∃ u8, σ = [some (.ref a), some (.int ((j : Nat) : Int)), some (.int ((i : Nat) : Int)), some (.int g), some (.int n), some (.ref l), some (.ref d), some (.int ((gcdL (D.take q) : Nat) : Int)), u8, none]) ∧ H' = upd H4 d (.frz od (.dK (eD D)))) ⟨⟨none, rfl⟩, rfl⟩ (fun q σ H' _ h => by rw [h.2]; exact hdo) (fun q x σ H5 H6 hi hP hY => ?_) (fun σ H5 hP => ?_)
    · obtain ⟨⟨u8, rfl⟩, rfl⟩ := hP
      obtain ⟨rfl, k, v, hkv, rfl⟩ := hY
      rw [edl] at hi
      have hdi : D[q]? = some D[q] := List.getElem?_eq_getElem hi
      rw [List.getElem?_map, hdi] at hkv
      obtain ⟨rfl, rfl⟩ : (Sum.inl D[q].1 : Key) = k ∧ V.int D[q].2 = v := by
        have := Option.some.inj hkv
        exact ⟨congrArg Prod.fst this, congrArg Prod.snd this⟩
      have hg := eD_get (List.mem_map.mpr ⟨_, List.getElem_mem hi, rfl⟩ : D[q].1 ∈ D.map (·.1))
      rw [lookD_of hnd (List.getElem_mem hi)] at hg
      have hdg : DGet (upd H4 d (.frz od (.dK (eD D)))) d (kV (Sum.inl D[q].1)) (some (.int D[q].2)) := by
        have := dget_of (k := Sum.inl D[q].1) (.inr ⟨od, hdo⟩ : Rd (upd H4 d (.frz od (.dK (eD D)))) d (.dK (eD D)))
        rw [hg] at this
        exact this
      refine ⟨_, rfl, _, rfl, _, rfl, d, _, rfl, hdg, _, _, rfl, ⟨some (.int D[q].1), ?_⟩, rfl⟩
      rw [gcdL_snoc hdi]
      rfl
    · obtain ⟨⟨u8, rfl⟩, rfl⟩ := hP
      rw [edl, List.take_length]
      refine ⟨hdo, ?_⟩
      rw [upd_upd']
      have k5 : Same H (upd H4 d (.dK (eD D))) := fun b o e => by
        rw [upd_ne (ne_of_none e hdH)]
        exact k4 _ _ e
      have hl5 : (upd H4 d (.dK (eD D))) l = some (.lst (rf ks)) := by
        rw [upd_ne hld]
        exact hl4
      have hD5 : (upd H4 d (.dK (eD D))) d = some (.dK (eD D)) := upd_same
      generalize upd H4 d (.dK (eD D)) = H5 at k5 hl5 hD5
      refine ⟨_, rfl, d, eD D, D.map (·.1), rfl, .inl hD5, by simp [eD, Function.comp_def], by rw [List.length_map]; omega, fun ys L hyp hys hL => ?_⟩
      have hyk := keysD_of hyp hys
      subst hyk
      have s6 : Same H5 (upd H5 L (.lst ((keysD D).map V.int))) := same_laid hL
      refine ⟨L, rfl, ⟨_, SqL.of upd_same⟩, fun M hM => ?_⟩
      have kl : ((keysD D).map V.int).length = (keysD D).length := List.length_map _
      have klD : (keysD D).length = D.length := by rw [(keysD_perm D).length_eq, List.length_map]
      refine lc_dat (n := ((keysD D).map V.int).length) walk_list (fun i => (keysD D)[i]?.bind fun k => if 0 < lookD D k then some (dQ (k, (lookD D k).fdiv ((max 1 (gcdL D) : Nat) : Int))) else none) (fun H' s => s.seq (SqL.of upd_same)) (fun i H1 x H2 hi hY => by rw [hY.1]; exact Same.refl _) hM (by rw [sizeLine_eq]; omega) (fun i x H6 H7 k hi hY sm6 sm7 hk1 hk2 => ?_) (fun H6 zs hzs hML sm6 => ?_)
      · obtain ⟨rfl, hx⟩ := hY
        rw [List.getElem?_map] at hx
        obtain ⟨ky, hky, rfl⟩ := Option.map_eq_some_iff.mp hx
        rw [hky] at hk1 hk2
        have hmem : ky ∈ D.map (·.1) := (keysD_perm D).mem_iff.mp (List.mem_of_getElem? hky)
        have hg := eD_get hmem
        have hD7 := sm7 _ _ (s6 _ _ hD5)
        have hdg : DGet H7 d (.int ky) (some (.int (lookD D ky))) := by
          have := DGet.k (k := Sum.inl ky) hD7
          rw [hg] at this
          exact this
        refine ⟨rfl, _, rfl, _, rfl, d, _, rfl, hdg, _, _, rfl, rfl, _, rfl, ?_⟩
        by_cases hp : 0 < lookD D ky
        · rw [decide_eq_true hp]
          have hqv := hval _ (lookD_mem hmem)
          have hle : gcdL D ≤ (lookD D ky).natAbs := Nat.le_of_dvd (by omega) (gcdL_dvd (lookD_mem hmem))
          refine iteT ⟨_, rfl, _, rfl, _, rfl, d, _, rfl, hdg, _, rfl, _, _, rfl, ?_⟩
          have e9 : (if ((gcdL D : Nat) : Int) > 1 then ((gcdL D : Nat) : Int) else 1) = ((max 1 (gcdL D) : Nat) : Int) := by split <;> omega
          rw [e9]
          exact ⟨_, _, rfl, rfl, ⟨by omega, by omega⟩, two_le2, fun t ht => hk1 _ _ _ (by rw [Option.bind_some, if_pos hp]; rfl) (same_laid ht) (.tup upd_same (.cons (.int _) (.cons (.int _) .nil)))⟩
        · rw [decide_eq_false hp]
          exact iteF (hk2 (by rw [Option.bind_some, if_neg hp]) _ (Same.refl _))
      · rw [kl, range_fm, parts_law hnd fun q hq => (hval q hq).1] at hzs
        have k6 : Same H H6 := (k5.trans s6).trans sm6
        have hl6 := sm6 _ _ (s6 _ _ hl5)
        refine ⟨M, zs, prtB ((partsD D).map dQ), rfl, SqL.of hML, fun T u hu hT => ?_⟩
        have s7 : Same H6 (upd H6 T u) := same_laid hT
        have hv7 : Tp (upd H6 T u) (.ref T) (dPr (partsD D)) := tp_of hu upd_same (hzs.keep s7.tups)
        generalize upd H6 T u = H7 at s7 hv7
        have hl7 := s7 _ _ hl6
        have k7 := k6.trans s7
        refine ⟨_, rfl, _, rfl, l, rf ks, (i : Int), _, rfl, rfl, SqL.of hl7, atI_nat ei, kc.1, _, 0, _, rfl, rfl, SqT.of (k7 _ _ e3), rfl, _, rfl, two_le2, fun R hR => ?_⟩
        have s8 : Same H7 (upd H7 R (.tup [.int kc.2.1, .ref T])) := same_laid hR
        have hv8 : Tp (upd H7 R (.tup [.int kc.2.1, .ref T])) (.ref R) (dC (withP kc.2 g n)) := by
          unfold withP
          rw [hDe]
          exact .tup upd_same (.cons (.int _) (.cons (hv7.keep s8.tups) .nil))
        generalize upd H7 R (.tup [V.int kc.2.1, V.ref T]) = H8 at s8 hv8
        have hl8 := s8 _ _ hl7
        have k8 := k7.trans s8
        have ix : ixN (rf ks).length ((i : Nat) : Int) = some i := by
          unfold ixN
          have : (rf ks).length = ks.length := List.length_map _
          rw [if_pos (by omega), if_pos (by omega)]
          rfl
        refine ⟨_, rfl, _, rfl, l, rf ks, (i : Int), i, rfl, rfl, hl8, ix, ?_⟩
        have hlH : H l = none := by
          assumption
        have k9 : Same H (upd H8 l (.lst ((rf ks).set i (.ref R)))) := fun q o e => by
          rw [upd_ne (ne_of_none e hlH)]
          exact k8 _ _ e
        have erf : (rf ks).set i (.ref R) = rf (ks.set i (R, withP kc.2 g n)) := by
          unfold rf
          rw [List.map_set]
        have tk : TupK H8 (upd H8 l (.lst ((rf ks).set i (.ref R)))) := tk_upd hl8 id
        have hk9 : TC (upd H8 l (.lst ((rf ks).set i (.ref R)))) (ks.set i (R, withP kc.2 g n)) := fun q hq => by
          rcases List.mem_or_eq_of_mem_set hq with z | z
          · exact (hk q z).keep k9.tups
          · rw [z]
            exact hv8.keep tk
        have emap : (ks.set i (R, withP kc.2 g n)).map (·.2) = (ks.map (·.2)).set i (withP kc.2 g n) := by rw [List.map_set]
        rw [← emap] at hq
        refine ⟨_, rfl, _, rfl, _, rfl, .ref a, m, j, l, ks.set i (R, withP kc.2 g n), rfl, hx.keep k9.tups, hjl, hml, by rw [upd_same, erf], hk9, by rw [List.length_set]; exact hkl, fun H' v s9 hv => hq H' v (k9.trans s9) hv⟩
end
end T83

set_option Elab.async false
set_option linter.all false
set_option maxRecDepth 100000
set_option maxHeartbeats 2000000
namespace T83
open PySem PySem.Spec PyProof.Rows L2 RZ
/-- what is wrong with an order, if anything -/
inductive Why (o : Option Mach) (z : Str) (dp di dg : PyData) (n : Int) (way : Str) : Option Str → Prop
  | unk (h : o = none) : Why o z dp di dg n way (some ("unknown " ++ (PyData.str z).shown))
  | place {m : Mach} (h : o = some m) (h1 : wi 0 ((m.1.length : Int) - 1) dp = false) : Why o z dp di dg n way (some ("number " ++ dp.shown))
  | index {m : Mach} {j : Nat} {r : List Chc} (h : o = some m) (hp : dp = .int (j : Int)) (hr : m.2[j]? = some r) (h1 : wi 0 ((m.1.length : Int) - 1) dp = true) (h2 : wi 0 ((r.length : Int) - 1) di = false) : Why o z dp di dg n way (some ("number " ++ di.shown))
  | goal {m : Mach} {j : Nat} {r : List Chc} {i : Nat} {c : Chc} (h : o = some m) (hp : dp = .int (j : Int)) (hr : m.2[j]? = some r) (h1 : wi 0 ((m.1.length : Int) - 1) dp = true) (hi : di = .int (i : Int)) (hc : r[i]? = some c) (h2 : wi 0 ((r.length : Int) - 1) di = true)
      (hw : way = "part") (h3 : wi 0 ((m.1.length : Int) - 1) dg = false) : Why o z dp di dg n way (some ("number " ++ dg.shown))
  | number {m : Mach} {j : Nat} {r : List Chc} {i : Nat} {c : Chc} (h : o = some m) (hp : dp = .int (j : Int)) (hr : m.2[j]? = some r) (h1 : wi 0 ((m.1.length : Int) - 1) dp = true) (hi : di = .int (i : Int)) (hc : r[i]? = some c) (h2 : wi 0 ((r.length : Int) - 1) di = true)
      (hg : way = "part" → wi 0 ((m.1.length : Int) - 1) dg = true) (hw : way ≠ "less") (h3 : wi 0 (10 ^ 6) (.int n) = false) : Why o z dp di dg n way (some ("number " ++ (PyData.int n).shown))
  | fine {m : Mach} {j : Nat} {r : List Chc} {i : Nat} {c : Chc} (h : o = some m) (hp : dp = .int (j : Int)) (hr : m.2[j]? = some r) (h1 : wi 0 ((m.1.length : Int) - 1) dp = true) (hi : di = .int (i : Int)) (hc : r[i]? = some c) (h2 : wi 0 ((r.length : Int) - 1) di = true)
      (hg : way = "part" → wi 0 ((m.1.length : Int) - 1) dg = true) (hw : way ≠ "less" → wi 0 (10 ^ 6) (.int n) = true) : Why o z dp di dg n way none
theorem why_all (o : Option Mach) (z : Str) (dp di dg : PyData) (n : Int) (way : Str) (hm : ∀ m, o = some m → m.2.length = m.1.length) : ∃ r, Why o z dp di dg n way r := by
  cases o with
  | none => exact ⟨_, .unk rfl⟩
  | some m =>
    have hln := hm m rfl
    cases h1 : wi 0 ((m.1.length : Int) - 1) dp with
    | false => exact ⟨_, .place rfl h1⟩
    | true =>
      obtain ⟨jj, rfl, a1, a2⟩ := wi_int h1
      obtain ⟨j, rfl⟩ := Int.eq_ofNat_of_zero_le a1
      have hj : m.2[j]? = some m.2[j] := List.getElem?_eq_getElem (by omega)
      cases h2 : wi 0 ((m.2[j].length : Int) - 1) di with
      | false => exact ⟨_, .index rfl rfl hj h1 h2⟩
      | true =>
        obtain ⟨ii, rfl, b1, b2⟩ := wi_int h2
        obtain ⟨i, rfl⟩ := Int.eq_ofNat_of_zero_le b1
        have hi : m.2[j][i]? = some m.2[j][i] := List.getElem?_eq_getElem (by omega)
        by_cases hw : way = "part" ∧ wi 0 ((m.1.length : Int) - 1) dg = false
        · exact ⟨_, .goal rfl rfl hj h1 rfl hi h2 hw.1 hw.2⟩
        · have hg : way = "part" → wi 0 ((m.1.length : Int) - 1) dg = true := fun z => by
            cases e : wi 0 ((m.1.length : Int) - 1) dg with
            | true => rfl
            | false => exact absurd ⟨z, e⟩ hw
          by_cases hv : way ≠ "less" ∧ wi 0 (10 ^ 6) (.int n) = false
          · exact ⟨_, .number rfl rfl hj h1 rfl hi h2 hg hv.1 hv.2⟩
          · refine ⟨_, .fine rfl rfl hj h1 rfl hi h2 hg fun z => ?_⟩
            cases e : wi 0 (10 ^ 6) (.int n) with
            | true => rfl
            | false => exact absurd ⟨z, e⟩ hv
def optV : Option Str → V
  | none => .non
  | some z => .str z
theorem Atm.dv {v : V} {d : PyData} (h : Atm v d) (H : Hp) : Dv H v d := by
  cases h with
  | non => exact .tp .non
  | bl b => exact .tp (.bl b)
  | int i _ _ => exact .tp (.int i)
  | str x _ => exact .tp (.str x)
section
variable {P : Program} {w : World} {K : PySem.W.Frag} {mg : Str → Option Value} {base : Heap}
/-! ### _law_wrong -/
abbrev sLWrong : Stmt := top 117
abbrev nLWrong : List Str := ["bowl", "account", "name", "place", "index", "goal", "number", "way", "machine"]
theorem scLWrong : FnScope nLWrong ["bowl", "account", "name", "place", "index", "goal", "number", "way"] (defScope sLWrong) := ⟨rfl, rfl, rfl, by decide +kernel, rfl, by decide +kernel, by decide +kernel⟩
def spLWrong : Sp := fun vs H Q _ => ∃ bv da z yp dp yi di yg dg n way es r, vs = [bv, .ref da, .str z, yp, yi, yg, .int n, .str way] ∧ DE H da es ∧ EG es ∧ Atm (.str z) (.str z) ∧ Atm yp dp ∧ Atm yi di ∧ Atm yg dg ∧ Atm (.int n) (.int n) ∧
  Why (getA (accE es) z) z dp di dg n way r ∧ Q (optV r) H
theorem ok_lwrong (F : Fx K mg) (D : At K mg "_law_wrong" sLWrong) (G : Cal P w K mg base CX0 1 "_law_is_whole" ["value", "low", "high"] spLWhole) : Cal P w K mg base CX0 2 "_law_wrong" ["bowl", "account", "name", "place", "index", "goal", "number", "way"] spLWrong := by
  refine cal_of D scLWrong (fun vs H Q E h => ?_) (fun _ _ _ _ _ _ us hl => match us, hl with | [_, _, _, _, _, _, _, _], _ => rfl) fun f cdv A outer s H vs Q E hr h => ⟨_, PSs.nox (pss_cons (ps_if (pt_cmp (pc_dnotin (hu_of hr) (pv 2) (pv 1))) (pss_one (ps_ret (pe_op op_add_str pe_str (pe_callB call_reprA (by rfl) (F.b "repr" (by decide)) (by decide +kernel) (pa_cons (pv 2) pa_nil))))) pss_nil)
    (pss_cons (ps_set (i := 8) scLWrong.nd rfl (Or.inl rfl) (pe_dget (hu_of hr) (pv 1) (pv 2) (fun _ _ => rfl)))
    (pss_cons (ps_if (pt_not (pt_val (pe_cal G hr (by rfl) pass0 (pa_cons (pv 3) (pa_cons pe_int (pa_cons (pe_op op_sub (pe_callB call_len (by rfl) (F.b "len" (by decide)) boot_len (pa_cons (pe_ix ix_tup (pv 8) pe_int (fun _ _ => rfl)) pa_nil)) pe_int) pa_nil)))))) (pss_one (ps_ret (pe_op op_add_str pe_str (pe_callB call_reprA (by rfl) (F.b "repr" (by decide)) (by decide +kernel) (pa_cons (pv 3) pa_nil))))) pss_nil)
    (pss_cons (ps_if (pt_not (pt_val (pe_cal G hr (by rfl) pass0 (pa_cons (pv 4) (pa_cons pe_int (pa_cons (pe_op op_sub (pe_callB call_len (by rfl) (F.b "len" (by decide)) boot_len (pa_cons (pe_ix ix_tup (pe_ix ix_tup (pv 8) pe_int (fun _ _ => rfl)) (pv 3) (fun _ _ => rfl)) pa_nil)) pe_int) pa_nil)))))) (pss_one (ps_ret (pe_op op_add_str pe_str (pe_callB call_reprA (by rfl) (F.b "repr" (by decide)) (by decide +kernel) (pa_cons (pv 4) pa_nil))))) pss_nil)
    (pss_cons (ps_if (pw_and (pt_cmpR op_eq (pv 7) pe_str (nomark _)) (pw_and1 (pt_not (pt_val (pe_cal G hr (by rfl) pass0 (pa_cons (pv 5) (pa_cons pe_int (pa_cons (pe_op op_sub (pe_callB call_len (by rfl) (F.b "len" (by decide)) boot_len (pa_cons (pe_ix ix_tup (pv 8) pe_int (fun _ _ => rfl)) pa_nil)) pe_int) pa_nil)))))))).pt (pss_one (ps_ret (pe_op op_add_str pe_str (pe_callB call_reprA (by rfl) (F.b "repr" (by decide)) (by decide +kernel) (pa_cons (pv 5) pa_nil))))) pss_nil)
    (pss_cons (ps_if (pw_and (pt_cmpR op_ne (pv 7) pe_str (nomark _)) (pw_and1 (pt_not (pt_val (pe_cal G hr (by rfl) pass0 (pa_cons (pv 6) (pa_cons pe_int (pa_cons (pe_op op_pow pe_int pe_int) pa_nil)))))))).pt (pss_one (ps_ret (pe_op op_add_str pe_str (pe_callB call_reprA (by rfl) (F.b "repr" (by decide)) (by decide +kernel) (pa_cons (pv 6) pa_nil))))) pss_nil)
    (pss_one (ps_ret pe_non)))))))), ?_⟩
  · obtain ⟨bv, da, z, yp, dp, yi, di, yg, dg, n, way, es, r, rfl, _⟩ := h
    rfl
  · obtain ⟨bv, da, z, yp, dp, yi, di, yg, dg, n, way, es, r, rfl, hE, hG, az, ap, ai, ag, an, hwy, hq⟩ := h
    have hgz : DGet H da (.str z) ((getA es z).map fun p => p.1) := by
      have := DGet.k (k := Sum.inr z) hE.at_
      rw [kvE_get] at this
      exact this
    refine ⟨_, rfl, _, rfl, da, _, rfl, hgz, _, rfl, ?_⟩
    have lits : ∀ (a : Str) (v : V) (d : PyData), Atm v d → a.length ≤ 1000 → a.length + d.shown.length ≤ sizeLine := fun a v d h ha => by
      have := h.len
      rw [sizeLine_eq]
      omega
    have hac := accE_get es z
    cases hg : getA es z with
    | none =>
      rw [hg] at hac
      cases hwy with
      | unk h => exact iteT ⟨_, rfl, _, _, rfl, az, _, _, rfl, rfl, lits _ _ _ az (by decide +kernel), hq⟩
      | place h _ => rw [hac] at h; cases h
      | index h _ _ _ _ => rw [hac] at h; cases h
      | goal h _ _ _ _ _ _ _ _ => rw [hac] at h; cases h
      | number h _ _ _ _ _ _ _ _ _ => rw [hac] at h; cases h
      | fine h _ _ _ _ _ _ _ _ => rw [hac] at h; cases h
    | some vm =>
      obtain ⟨v, m0⟩ := vm
      rw [hg] at hac hgz
      have hmem := getA_mem hg
      obtain ⟨hsm, hln⟩ := hG _ hmem
      have hm : Tp H v (dM m0) := (hE.ok _ hmem).2
      have hsg : m0.1.length ≤ 1000 := hsm.sg
      have hln : m0.2.length = m0.1.length := hln
      obtain ⟨a, b, xs, rfl, ha, hbb, hxs⟩ := mach_of hm
      have eo : ∀ m, getA (accE es) z = some m → m = m0 := fun m h => by
        rw [hac] at h
        cases h
        rfl
      refine iteF ⟨_, rfl, _, rfl, da, _, rfl, hgz, ?_⟩
      refine ⟨_, rfl, _, rfl, a, _, 0, _, rfl, rfl, SqT.of ha, rfl, _, _, rfl, ⟨by rw [sizeLine_eq]; omega, rfl⟩, _, _, rfl, rfl, yp, dp, 0, _, rfl, ap.dv H, .inl ⟨_, rfl, _, rfl, ?_⟩⟩
      have placed : ∀ (j : Nat) r, dp = .int (j : Int) → m0.2[j]? = some r → yp = .int (j : Int) ∧ ∃ (bb : Addr) (ks : List KC), xs[j]? = some (.ref bb) ∧ ks.map (·.2) = r ∧ H bb = some (.tup (rf ks)) ∧ TC H ks := fun j r e1 e2 => by
        subst e1
        exact ⟨dv_int (ap.dv H), rowAt hxs e2⟩
      cases hwy with
      | unk h => rw [hac] at h; cases h
      | place h h1 =>
        cases eo _ h
        rw [h1]
        exact iteT ⟨_, rfl, _, _, rfl, ap, _, _, rfl, rfl, lits _ _ _ ap (by decide +kernel), hq⟩
      | @index m j r h hp hr1 h1 h2 =>
        cases eo _ h
        rw [h1]
        obtain ⟨rfl, bb, ks, e1, hkr, hbk, hk⟩ := placed j r hp hr1
        subst hkr
        rw [List.length_map] at h2
        have hkl : ks.length ≤ 100 := by have := (hsm.row _ (List.mem_of_getElem? hr1)).1; rw [List.length_map] at this; exact this
        refine iteF ⟨_, rfl, _, rfl, a, _, 1, _, rfl, rfl, SqT.of ha, rfl, _, rfl, b, _, (j : Int), _, rfl, rfl, SqT.of hbb, atI_nat e1, _, (rf ks).length, rfl, .inr ⟨_, SqT.of hbk, rfl⟩, _, _, rfl, rfl, yi, di, 0, _, rfl, ai.dv H, .inl ⟨_, rfl, _, rfl, ?_⟩⟩
        rw [List.length_map, h2]
        exact iteT ⟨_, rfl, _, _, rfl, ai, _, _, rfl, rfl, lits _ _ _ ai (by decide +kernel), hq⟩
      | @goal m j r i c h hp hr1 h1 hi hc h2 hw h3 =>
        cases eo _ h
        rw [h1]
        obtain ⟨rfl, bb, ks, e1, hkr, hbk, hk⟩ := placed j r hp hr1
        subst hkr
        rw [List.length_map] at h2
        have hkl : ks.length ≤ 100 := by have := (hsm.row _ (List.mem_of_getElem? hr1)).1; rw [List.length_map] at this; exact this
        refine iteF ⟨_, rfl, _, rfl, a, _, 1, _, rfl, rfl, SqT.of ha, rfl, _, rfl, b, _, (j : Int), _, rfl, rfl, SqT.of hbb, atI_nat e1, _, (rf ks).length, rfl, .inr ⟨_, SqT.of hbk, rfl⟩, _, _, rfl, rfl, yi, di, 0, _, rfl, ai.dv H, .inl ⟨_, rfl, _, rfl, ?_⟩⟩
        rw [List.length_map, h2]
        refine iteF ⟨_, rfl, rfl, _, rfl, ?_⟩
        rw [decide_eq_true (by rw [hw])]
        refine iteT ⟨_, rfl, _, rfl, a, _, 0, _, rfl, rfl, SqT.of ha, rfl, _, _, rfl, ⟨by rw [sizeLine_eq]; omega, rfl⟩, _, _, rfl, rfl, yg, dg, 0, _, rfl, ag.dv H, .inl ⟨_, rfl, _, rfl, ?_⟩⟩
        rw [h3]
        exact iteT ⟨_, rfl, _, _, rfl, ag, _, _, rfl, rfl, lits _ _ _ ag (by decide +kernel), hq⟩
      | @number m j r i c h hp0 hr1 h1 hi hc h2 hg hw h3 =>
        cases eo _ h
        rw [h1]
        obtain ⟨rfl, bb, ks, e1, hkr, hbk, hk⟩ := placed j r hp0 hr1
        subst hkr
        rw [List.length_map] at h2
        have hkl : ks.length ≤ 100 := by have := (hsm.row _ (List.mem_of_getElem? hr1)).1; rw [List.length_map] at this; exact this
        refine iteF ⟨_, rfl, _, rfl, a, _, 1, _, rfl, rfl, SqT.of ha, rfl, _, rfl, b, _, (j : Int), _, rfl, rfl, SqT.of hbb, atI_nat e1, _, (rf ks).length, rfl, .inr ⟨_, SqT.of hbk, rfl⟩, _, _, rfl, rfl, yi, di, 0, _, rfl, ai.dv H, .inl ⟨_, rfl, _, rfl, ?_⟩⟩
        rw [List.length_map, h2]
        refine iteF ⟨_, rfl, rfl, _, rfl, ?_⟩
        by_cases hp : way = "part"
        · rw [decide_eq_true (by rw [hp])]
          refine iteT ⟨_, rfl, _, rfl, a, _, 0, _, rfl, rfl, SqT.of ha, rfl, _, _, rfl, ⟨by rw [sizeLine_eq]; omega, rfl⟩, _, _, rfl, rfl, yg, dg, 0, _, rfl, ag.dv H, .inl ⟨_, rfl, _, rfl, ?_⟩⟩
          rw [hg hp]
          refine iteF ?_
          refine ⟨_, rfl, rfl, _, rfl, ?_⟩
          rw [show (!decide (V.str way = V.str "less")) = true from by rw [decide_eq_false (fun z => hw (by injection z))]; rfl]
          refine iteT ⟨_, rfl, _, _, rfl, rfl, ⟨by decide, by decide, by decide⟩, .int n, .int n, 0, _, rfl, an.dv H, .inl ⟨_, rfl, _, rfl, ?_⟩⟩
          rw [show ((10 : Int) ^ (6 : Int).toNat) = 10 ^ 6 from rfl, h3]
          exact iteT ⟨_, rfl, _, _, rfl, an, _, _, rfl, rfl, lits _ _ _ an (by decide +kernel), hq⟩
        · rw [decide_eq_false (fun z => hp (by injection z))]
          refine iteF (iteF ?_)
          refine ⟨_, rfl, rfl, _, rfl, ?_⟩
          rw [show (!decide (V.str way = V.str "less")) = true from by rw [decide_eq_false (fun z => hw (by injection z))]; rfl]
          refine iteT ⟨_, rfl, _, _, rfl, rfl, ⟨by decide, by decide, by decide⟩, .int n, .int n, 0, _, rfl, an.dv H, .inl ⟨_, rfl, _, rfl, ?_⟩⟩
          rw [show ((10 : Int) ^ (6 : Int).toNat) = 10 ^ 6 from rfl, h3]
          exact iteT ⟨_, rfl, _, _, rfl, an, _, _, rfl, rfl, lits _ _ _ an (by decide +kernel), hq⟩
      | @fine m j r i c h hp0 hr1 h1 hi hc h2 hg hw =>
        cases eo _ h
        rw [h1]
        obtain ⟨rfl, bb, ks, e1, hkr, hbk, hk⟩ := placed j r hp0 hr1
        subst hkr
        rw [List.length_map] at h2
        have hkl : ks.length ≤ 100 := by have := (hsm.row _ (List.mem_of_getElem? hr1)).1; rw [List.length_map] at this; exact this
        refine iteF ⟨_, rfl, _, rfl, a, _, 1, _, rfl, rfl, SqT.of ha, rfl, _, rfl, b, _, (j : Int), _, rfl, rfl, SqT.of hbb, atI_nat e1, _, (rf ks).length, rfl, .inr ⟨_, SqT.of hbk, rfl⟩, _, _, rfl, rfl, yi, di, 0, _, rfl, ai.dv H, .inl ⟨_, rfl, _, rfl, ?_⟩⟩
        rw [List.length_map, h2]
        refine iteF ⟨_, rfl, rfl, _, rfl, ?_⟩
        by_cases hp : way = "part"
        · rw [decide_eq_true (by rw [hp])]
          refine iteT ⟨_, rfl, _, rfl, a, _, 0, _, rfl, rfl, SqT.of ha, rfl, _, _, rfl, ⟨by rw [sizeLine_eq]; omega, rfl⟩, _, _, rfl, rfl, yg, dg, 0, _, rfl, ag.dv H, .inl ⟨_, rfl, _, rfl, ?_⟩⟩
          rw [hg hp]
          refine iteF ?_
          refine ⟨_, rfl, rfl, _, rfl, ?_⟩
          by_cases hv : way = "less"
          · rw [show (!decide (V.str way = V.str "less")) = false from by rw [decide_eq_true (by rw [hv])]; rfl]
            exact iteF (iteF hq)
          · rw [show (!decide (V.str way = V.str "less")) = true from by rw [decide_eq_false (fun z => hv (by injection z))]; rfl]
            refine iteT ⟨_, rfl, _, _, rfl, rfl, ⟨by decide, by decide, by decide⟩, .int n, .int n, 0, _, rfl, an.dv H, .inl ⟨_, rfl, _, rfl, ?_⟩⟩
            rw [show ((10 : Int) ^ (6 : Int).toNat) = 10 ^ 6 from rfl, hw hv]
            exact iteF hq
        · rw [decide_eq_false (fun z => hp (by injection z))]
          refine iteF (iteF ?_)
          refine ⟨_, rfl, rfl, _, rfl, ?_⟩
          by_cases hv : way = "less"
          · rw [show (!decide (V.str way = V.str "less")) = false from by rw [decide_eq_true (by rw [hv])]; rfl]
            exact iteF (iteF hq)
          · rw [show (!decide (V.str way = V.str "less")) = true from by rw [decide_eq_false (fun z => hv (by injection z))]; rfl]
            refine iteT ⟨_, rfl, _, _, rfl, rfl, ⟨by decide, by decide, by decide⟩, .int n, .int n, 0, _, rfl, an.dv H, .inl ⟨_, rfl, _, rfl, ?_⟩⟩
            rw [show ((10 : Int) ^ (6 : Int).toNat) = 10 ^ 6 from rfl, hw hv]
            exact iteF hq
end
end T83

set_option Elab.async false
set_option linter.all false
set_option maxRecDepth 100000
set_option maxHeartbeats 2000000
namespace T83
open PySem PySem.Spec PyProof.Rows L2 RZ LamX
/-! ### a def whose code object is known -/
structure AtC (K : PySem.W.Frag) (mg : Str → Option Value) (base : Heap) (x : Str) (st : Stmt) (c P : Addr) : Prop where
  ex : ∃ f fd, mg x = some (.ref f) ∧ FnP K x x st f fd ∧ fd.code = .ref c
  tb : TabB base mg c P
section
variable {P : Program} {w : World} {K : PySem.W.Frag} {mg : Str → Option Value} {base : Heap} {CX : CXT}
theorem cal_ofC {x : Str} {st : Stmt} {N ps : List Str} {k : Nat} {sp : Sp} {c Pt : Addr} (F : AtC K mg base x st c Pt) (S : FnScope N ps (defScope st)) (len : ∀ vs H Q E, sp vs H Q E → vs.length = ps.length)
    (hb : ∀ (kV doc pm : Value) (an : Option Addr) (cdv ct : Value) (us : List Value), us.length = ps.length → bindArgs (PySem.W.fnOf x x (defArgs st) (defBody st) (defScope st) .none kV doc pm an cdv ct) ⟨us, []⟩ = pure (ps.zip us))
    (hbody : ∀ (f : Addr) (A : Around) (outer : List Env) (s : Shared) (H : Hp) (vs : List V) (Q : VK) (E : XK), Room k (A.deeper (envOfC x (defScope st) s.heap.objs.size f (.ref c))) → sp vs H Q E →
      ∃ t, PSs (cxOf CX P w K mg base N x (defScope st) f (.ref c) A outer s H E) (defBody st) t ∧ t { nx := fun _ H' => Q .non H', rt := Q } (start N vs) H) : Cal P w K mg base CX (k + 1) x ps sp := by
  obtain ⟨f, fd, hm, D, hc⟩ := F.ex
  refine ⟨f, fd, hm, D.kp, D.bindsN hb, ?_⟩
  obtain ⟨oc, od, dV, kV, doc, pm, an, cdv, ct, osl, rfl, lk, hcd, _, _⟩ := D.ex
  obtain rfl : cdv = .ref c := hc
  exact fn_of lk hcd S len fun A outer s H vs Q E hr hsp => hbody f A outer s H vs Q E hr hsp
end
/-! ### atoms -/
theorem atm_int {i : Int} (h1 : -1 ≤ i) (h2 : i ≤ 20) : Atm (.int i) (.int i) := by
  have h : ∀ n : Fin 22, (PyData.int ((n.val : Int) - 1)).showable = true ∧ (PyData.int ((n.val : Int) - 1)).shown.length ≤ 1000 := by decide +kernel
  have e : i = (((i + 1).toNat : Int) - 1) := by omega
  obtain ⟨a, b⟩ := h ⟨(i + 1).toNat, by omega⟩
  rw [e]
  exact .int _ a b
theorem atm_big : Atm (.int (10 ^ 6)) (.int (10 ^ 6)) := .int _ (by decide +kernel) (by decide +kernel)
theorem atm_big1 : Atm (.int (10 ^ 6 + 1)) (.int (10 ^ 6 + 1)) := .int _ (by decide +kernel) (by decide +kernel)
/-! ### what is heard -/
def RaiseQ (Q : VK) (s : Str) (H : Hp) : Prop := ∀ H' t, Same H H' → H' t = none → Q (.ref t) (upd H' t (.tup [.str "raised", .str s]))
section
variable {K : PySem.W.Frag} {Q : VK} {H : Hp}
theorem bad_num {v : V} {p : PyData} (a : Atm v p) (h : RaiseQ Q ("number " ++ p.shown) H) : BadN (Wish K Q) (cA K "InvalidNumber") "value" v H := fun d H' hd s hx => ⟨_, .num hx a, fun t ht => h H' t s ht⟩
theorem bad_many {v : V} {p : PyData} (a : Atm v p) (h : RaiseQ Q ("many " ++ p.shown) H) : BadN (Wish K Q) (cA K "TooMany") "number" v H := fun d H' hd s hx => ⟨_, .many hx a, fun t ht => h H' t s ht⟩
theorem bad_unk {v : V} {p : PyData} (a : Atm v p) (h : RaiseQ Q ("unknown " ++ p.shown) H) : BadN (Wish K Q) (cA K "UnknownName") "name" v H := fun d H' hd s hx => ⟨_, .unk hx a, fun t ht => h H' t s ht⟩
theorem bad_noth {v : V} {p : PyData} (a : Atm v p) (h : RaiseQ Q ("nothing " ++ p.shown) H) : BadN (Wish K Q) (cA K "NothingToUndo") "wanted" v H := fun d H' hd s hx => ⟨_, .noth hx a, fun t ht => h H' t s ht⟩
theorem bad_mach (h : RaiseQ Q "machine" H) : BadC (Wish K Q) (cA K "InvalidMachine") H := fun H' s => ⟨_, .mach none, fun t ht => h H' t s ht⟩
theorem bad_name (h : RaiseQ Q "name" H) : BadC (Wish K Q) (cA K "InvalidName") H := fun H' s => ⟨_, .name none, fun t ht => h H' t s ht⟩
/-- a step has been done, and it is told -/
def ToldQ (K : PySem.W.Frag) (H : Hp) (p dx lp an : Addr) (past : List Addr) (cur : Addr) (es : List Ent) (Q : VK) : Prop :=
  ∀ H' lf' cu an' t, H lf' = none → H cu = none → Kp [p, lp] H H' → DE H' cu es → Shf K H' p dx lp lf' an' (past ++ [cur]) cu [] → H' t = none → Q (.ref t) (upd H' t (.tup [.str "told", .non]))
theorem stepd_told {p dx lp an : Addr} {past : List Addr} {cur : Addr} {es : List Ent} (h : ToldQ K H p dx lp an past cur es Q) : Stepd K H p dx lp an past cur es (Told Q) := fun H' lf' cu an' h1 h2 h3 h4 h5 h6 => ⟨two_le, fun t ht => h H' lf' cu an' t h1 h3 h4 h5 h6 ht⟩
/-! ### price, part, less: what is heard -/
/-- an order that is fine: the row that it makes -/
def ordR (way : Str) (r : List Chc) (i : Nat) (c : Chc) (g n : Int) : List Chc := if way = "price" then r.set i (n, c.2) else if way = "part" then r.set i (withP c g n) else r.eraseIdx i
end
section
variable {K : PySem.W.Frag} {Q : VK} {H : Hp}
theorem accE_some {es : List Ent} {z : Str} {v : V} {m : Mach} (h : getA es z = some (v, m)) : getA (accE es) z = some m := by
  rw [accE_get, h]
  rfl
theorem wi_in {n j : Nat} {d : PyData} (e : d = .int (j : Int)) (h : j < n) : wi 0 ((n : Int) - 1) d = true := by
  rw [e]
  show (decide ((0 : Int) ≤ (j : Int)) && decide ((j : Int) ≤ (n : Int) - 1)) = true
  rw [Bool.and_eq_true, decide_eq_true_eq, decide_eq_true_eq]
  omega
theorem sel_of {es : List Ent} {z : Str} {yp yi : V} {dp di dg : PyData} {n : Int} {way : Str} {r : Option Str} {R : Str → V → Mach → Nat → List Chc → Nat → Chc → Prop} (hG : EG es) (az : Atm (.str z) (.str z)) (ap : Atm yp dp) (ai : Atm yi di) (hwy : Why (getA (accE es) z) z dp di dg n way r)
    (hr : ∀ s, r = some s → RaiseQ Q s H)
    (hR : ∀ v m (j : Nat) rr (i : Nat) c, getA es z = some (v, m) → dp = .int (j : Int) → m.2[j]? = some rr → di = .int (i : Int) → rr[i]? = some c → wi 0 ((m.1.length : Int) - 1) dp = true → wi 0 ((rr.length : Int) - 1) di = true → R z v m j rr i c) :
    Sel K H es (.str z) (.str z) yp dp yi di (Wish K Q) R := by
  refine ⟨fun h => ?_, fun z' v m ez ev => ?_⟩
  · have h : (getA (accE es) z).isSome = false := h
    cases hwy with
    | unk h1 => exact bad_unk az (hr _ rfl)
    | place h1 => rw [h1] at h; cases h
    | index h1 => rw [h1] at h; cases h
    | goal h1 => rw [h1] at h; cases h
    | number h1 => rw [h1] at h; cases h
    | fine h1 => rw [h1] at h; cases h
  · cases ez
    have ea := accE_some ev
    have hln : m.2.length = m.1.length := (hG _ (getA_mem ev)).2
    refine ⟨fun h => ?_, fun j rr ep er => ?_⟩
    · cases hwy with
      | unk h1 => rw [h1] at ea; cases ea
      | place h1 => exact bad_num ap (hr _ rfl)
      | index h1 hp hr1 h2 => rw [ea] at h1; cases h1; rw [h2] at h; cases h
      | goal h1 hp hr1 h2 => rw [ea] at h1; cases h1; rw [h2] at h; cases h
      | number h1 hp hr1 h2 => rw [ea] at h1; cases h1; rw [h2] at h; cases h
      | fine h1 hp hr1 h2 => rw [ea] at h1; cases h1; rw [h2] at h; cases h
    have w1 : wi 0 ((m.1.length : Int) - 1) dp = true := wi_in ep (by rw [← hln]; exact (List.getElem?_eq_some_iff.mp er).1)
    have same : ∀ {m' : Mach} {j' : Nat} {r' : List Chc}, getA (accE es) z = some m' → dp = .int (j' : Int) → m'.2[j']? = some r' → r' = rr := fun {m' j' r'} h1 h2 h3 => by
      rw [ea] at h1
      cases h1
      rw [ep] at h2
      injection h2 with h2
      have : j = j' := by omega
      subst this
      rw [er] at h3
      exact (Option.some.inj h3).symm
    refine ⟨fun h => ?_, fun i c ei ec => ?_⟩
    · cases hwy with
      | unk h1 => rw [h1] at ea; cases ea
      | place h1 h2 => rw [ea] at h1; cases h1; rw [w1] at h2; cases h2
      | index h1 hp hr1 h2 => exact bad_num ai (hr _ rfl)
      | goal h1 hp hr1 h2 hi hc h3 => rw [same h1 hp hr1, h] at h3; cases h3
      | number h1 hp hr1 h2 hi hc h3 => rw [same h1 hp hr1, h] at h3; cases h3
      | fine h1 hp hr1 h2 hi hc h3 => rw [same h1 hp hr1, h] at h3; cases h3
    · exact hR v m j rr i c ev ep er ei ec w1 (wi_in ei (List.getElem?_eq_some_iff.mp ec).1)
/-- what is done of an order that is fine -/
def Fine (K : PySem.W.Frag) (H : Hp) (p dx lp an : Addr) (past : List Addr) (cur : Addr) (es : List Ent) (z : Str) (m : Mach) (Q : VK) : Prop :=
  (okM m = false → RaiseQ Q "machine" H) ∧ (okM m = true → ∀ v', (∃ b, v' = V.ref b) → ToldQ K H p dx lp an past cur (putA es z (v', m)) Q)
theorem Fine.rowd {p dx lp an : Addr} {past : List Addr} {cur : Addr} {es : List Ent} {z : Str} {m : Mach} (h : Fine K H p dx lp an past cur es z m Q) : Rowd K H p dx lp an past cur es z m (Told Q) (Wish K Q) :=
  ⟨fun e => bad_mach (h.1 e), fun e v' hv => stepd_told (h.2 e v' hv)⟩
variable {p dx lp lf an cur : Addr} {past fut : List Addr} {es : List Ent} {z : Str} {yp yi yg : V} {dp di dg : PyData} {n : Int} {r : Option Str}
theorem why_at {o : Option Mach} {way : Str} {m : Mach} {j : Nat} {rr : List Chc} {i : Nat} {c : Chc} (hwy : Why o z dp di dg n way r) (ea : o = some m) (ep : dp = .int (j : Int)) (er : m.2[j]? = some rr) (ei : di = .int (i : Int)) (ec : rr[i]? = some c) (w1 : wi 0 ((m.1.length : Int) - 1) dp = true) (w2 : wi 0 ((rr.length : Int) - 1) di = true) :
    (way = "part" ∧ wi 0 ((m.1.length : Int) - 1) dg = false ∧ r = some ("number " ++ dg.shown)) ∨ ((way = "part" → wi 0 ((m.1.length : Int) - 1) dg = true) ∧ way ≠ "less" ∧ wi 0 (10 ^ 6) (.int n) = false ∧ r = some ("number " ++ (PyData.int n).shown)) ∨
      ((way = "part" → wi 0 ((m.1.length : Int) - 1) dg = true) ∧ (way ≠ "less" → wi 0 (10 ^ 6) (.int n) = true) ∧ r = none) := by
  have inj : ∀ {a b : Nat}, PyData.int (a : Int) = .int (b : Int) → a = b := fun h => by injection h with h; omega
  subst ea
  cases hwy with
  | unk h1 => cases h1
  | place h1 h2 => cases h1; rw [w1] at h2; cases h2
  | index h1 hp hr1 h2 h3 =>
    cases h1
    rw [ep] at hp
    rw [← inj hp, er] at hr1
    cases hr1
    rw [w2] at h3
    cases h3
  | goal h1 hp hr1 h2 hi hc h3 hw h4 => cases h1; exact .inl ⟨hw, h4, rfl⟩
  | number h1 hp hr1 h2 hi hc h3 hg hw h4 => cases h1; exact .inr (.inl ⟨hg, hw, h4, rfl⟩)
  | fine h1 hp hr1 h2 hi hc h3 hg hw => cases h1; exact .inr (.inr ⟨hg, hw, rfl⟩)
theorem hear_price (sh : Shf K H p dx lp lf an past cur fut) (de : DE H cur es) (hpl : past.length ≤ 1000) (hel : es.length ≤ 1000) (hG : EG es) (az : Atm (.str z) (.str z)) (ap : Atm yp dp) (ai : Atm yi di) (an0 : Atm (.int n) (.int n)) (hwy : Why (getA (accE es) z) z dp di dg n "price" r)
    (hr : ∀ s, r = some s → RaiseQ Q s H)
    (hR : r = none → ∀ v m (j : Nat) rr (i : Nat) c, getA es z = some (v, m) → dp = .int (j : Int) → m.2[j]? = some rr → di = .int (i : Int) → rr[i]? = some c → Fine K H p dx lp an past cur es z (setR m j (rr.set i (n, c.2))) Q) :
    spPrice K [.ref p, .str z, yp, yi, .int n] H (Told Q) (Wish K Q) := by
  refine ⟨p, dx, lp, lf, an, past, cur, fut, es, .str z, .str z, yp, dp, yi, di, n, rfl, sh, de, hpl, hel, hG, az.dv H, ap.dv H, ai.dv H, sel_of hG az ap ai hwy hr fun v m j rr i c ev ep er ei ec w1 w2 => ?_⟩
  have ea := accE_some ev
  rcases why_at hwy ea ep er ei ec w1 w2 with ⟨hw, _⟩ | ⟨_, _, hn, e⟩ | ⟨_, hn, e⟩
  · exact absurd hw (by decide +kernel)
  · exact ⟨fun _ => bad_num an0 (hr _ e), fun h => by rw [hn] at h; cases h⟩
  · exact ⟨fun h => (by rw [hn (by decide +kernel)] at h; cases h), fun _ => (hR e v m j rr i c ev ep er ei ec).rowd⟩
theorem hear_less (sh : Shf K H p dx lp lf an past cur fut) (de : DE H cur es) (hpl : past.length ≤ 1000) (hel : es.length ≤ 1000) (hG : EG es) (az : Atm (.str z) (.str z)) (ap : Atm yp dp) (ai : Atm yi di) (hwy : Why (getA (accE es) z) z dp di dg n "less" r)
    (hr : ∀ s, r = some s → RaiseQ Q s H)
    (hR : r = none → ∀ v m (j : Nat) rr (i : Nat) c, getA es z = some (v, m) → dp = .int (j : Int) → m.2[j]? = some rr → di = .int (i : Int) → rr[i]? = some c → Fine K H p dx lp an past cur es z (setR m j (rr.eraseIdx i)) Q) :
    spLess K [.ref p, .str z, yp, yi] H (Told Q) (Wish K Q) := by
  refine ⟨p, dx, lp, lf, an, past, cur, fut, es, .str z, .str z, yp, dp, yi, di, rfl, sh, de, hpl, hel, hG, az.dv H, ap.dv H, ai.dv H, sel_of hG az ap ai hwy hr fun v m j rr i c ev ep er ei ec w1 w2 => ?_⟩
  have ea := accE_some ev
  rcases why_at hwy ea ep er ei ec w1 w2 with ⟨hw, _⟩ | ⟨_, hw, hn, e⟩ | ⟨_, hn, e⟩
  · exact absurd hw (by decide +kernel)
  · exact absurd rfl hw
  · exact (hR e v m j rr i c ev ep er ei ec).rowd
theorem hear_part (sh : Shf K H p dx lp lf an past cur fut) (de : DE H cur es) (hpl : past.length ≤ 1000) (hel : es.length ≤ 1000) (hG : EG es) (hP : EPs es) (az : Atm (.str z) (.str z)) (ap : Atm yp dp) (ai : Atm yi di) (ag : Atm yg dg) (an0 : Atm (.int n) (.int n)) (hwy : Why (getA (accE es) z) z dp di dg n "part" r)
    (hr : ∀ s, r = some s → RaiseQ Q s H)
    (hR : r = none → ∀ v m (j : Nat) rr (i : Nat) c g, getA es z = some (v, m) → dp = .int (j : Int) → m.2[j]? = some rr → di = .int (i : Int) → rr[i]? = some c → dg = .int g → Fine K H p dx lp an past cur es z (setR m j (rr.set i (withP c g n))) Q) :
    spPart K [.ref p, .str z, yp, yi, yg, .int n] H (Told Q) (Wish K Q) := by
  refine ⟨p, dx, lp, lf, an, past, cur, fut, es, .str z, .str z, yp, dp, yi, di, yg, dg, n, rfl, sh, de, hpl, hel, hG, hP, az.dv H, ap.dv H, ai.dv H, ag.dv H, sel_of hG az ap ai hwy hr fun v m j rr i c ev ep er ei ec w1 w2 => ?_⟩
  have ea := accE_some ev
  rcases why_at hwy ea ep er ei ec w1 w2 with ⟨_, hg, e⟩ | ⟨hg, _, hn, e⟩ | ⟨hg, hn, e⟩
  · exact ⟨fun _ => bad_num ag (hr _ e), fun g eg h => by rw [hg] at h; cases h⟩
  · exact ⟨fun h => (by rw [hg rfl] at h; cases h), fun g eg h => ⟨fun _ => bad_num an0 (hr _ e), fun h => (by rw [hn] at h; cases h)⟩⟩
  · exact ⟨fun h => (by rw [hg rfl] at h; cases h), fun g eg h => ⟨fun h => (by rw [hn (by decide +kernel)] at h; cases h), fun _ => (hR e v m j rr i c g ev ep er ei ec eg).rowd⟩⟩
end
end T83

set_option Elab.async false
set_option linter.all false
set_option maxRecDepth 100000
set_option maxHeartbeats 2000000
/-! Defs that ask for the repr of tuples: their promises are kept where no repr is under way (A.guards = some []). -/
namespace T83
open PySem PySem.Spec PyProof.Rows L2 LamX
/-- as FnOk, where no repr is under way -/
structure FnG (P : Program) (w : World) (K : PySem.W.Frag) (mg : Str → Option Value) (base : Heap) (CX : CXT) (k : Nat) (f : Addr) (fd : FuncData) (ps : List Str) (sp : Sp) : Prop where
  len : ∀ vs H Q E, sp vs H Q E → vs.length = ps.length
  go : ∀ (A : Around) (outer : List Env) (s : Shared) (H : Hp) (args : Args) (us : List Value) (vs : List V) (Q : VK) (E : XK), A.guards = some [] → Room k A →
    Env0 P w K mg base A outer s H → BindsTo s fd args (ps.zip us) → Vals vs us → sp vs H Q E → codeAny (model P w) A (.call (.ref f) args) (CR CX outer P w H s Q E) s
theorem fnG_of {CX : CXT} {P : Program} {w : World} {K : PySem.W.Frag} {mg : Str → Option Value} {base : Heap} {k : Nat} {f : Addr} {x : Str} {st : Stmt} {fd : FuncData} {N ps : List Str} {sp : Sp} (D : FnP K x x st f fd) (S : FnScope N ps (defScope st))
    (len : ∀ vs H Q E, sp vs H Q E → vs.length = ps.length)
    (hbody : ∀ (cdv : Value) (A : Around) (outer : List Env) (s : Shared) (H : Hp) (vs : List V) (Q : VK) (E : XK), A.guards = some [] → Room k (A.deeper (envOfC x (defScope st) s.heap.objs.size f cdv)) → sp vs H Q E →
      ∃ t, PSs (cxOf CX P w K mg base N x (defScope st) f cdv A outer s H E) (defBody st) t ∧ t { nx := fun _ H' => Q .non H', rt := Q } (start N vs) H) : FnG P w K mg base CX (k + 1) f fd ps sp := by
  obtain ⟨oc, od, dV, kV, doc, pm, an, cdv, ct, osl, rfl, lk, hcd, _, _⟩ := D.ex
  refine ⟨len, ?_⟩
  intro A outer s H args us vs Q E gA hr e0 hb r hsp
  have nv := len _ _ _ _ hsp
  have inK : K.In s.heap := e0.mod.kin.keeps fun b o z => (e0.bs b o z).1
  have nol : s.heap.NoLimit := e0.mod.nolimit.keeps fun b o z => (e0.bs b o z).1
  have kinds : ∀ y ∈ ps.zip us, (defScope st).names.lookup y.1 = some .local ∨ ((defScope st).names.lookup y.1 = some .cell ∧ ((cellsFrom (s.heap.objs.size + 1) (defScope st).names []).lookup y.1).isSome = true) := by
    intro y hy
    obtain ⟨n, v⟩ := y
    rcases S.par n (List.of_mem_zip hy).1 with z | z
    · exact Or.inl z
    · exact Or.inr ⟨z, PySem.W.cellsFrom_some _ _ _ (Or.inl z)⟩
  refine codeAny_call_function hr.depth (inK _ _ lk) rfl S.co S.gen rfl (PySem.W.codeRec_of inK hcd) (hb _ _ _ _ ?_)
  refine wpAny_newFunctionEnv_cells S.kind kinds fun env he s1 c1 => ?_
  subst he
  refine ⟨nol.keeps c1.toInCall.keep, codeAny_func ?_⟩
  obtain ⟨t, ht, hq⟩ := hbody cdv A outer s H vs Q E gA (hr.deeper _) hsp
  have I0 := inv_start (CX := CX) (E := E) S hr.hd e0 nv r c1
  refine wpAny_mono (ht.run [] s1 _ H _ I0 hq) (fun fl s' z => ?_) fun _ _ z => z
  cases fl with
  | ret u =>
    obtain ⟨v, τ, H', J, rv, q⟩ := z
    exact ⟨v, H', J.os, J.bare, J.base, J.hok, rv, q⟩
  | next =>
    obtain ⟨τ, H', J, q⟩ := z
    exact ⟨V.non, H', J.os, J.bare, J.base, J.hok, rfl, q⟩
  | brk => exact z.elim fun _ z => z.elim fun _ z => z.2.elim
  | cont => exact z.elim fun _ z => z.elim fun _ z => z.2.elim
theorem fnG_ofC {CX : CXT} {P : Program} {w : World} {K : PySem.W.Frag} {mg : Str → Option Value} {base : Heap} {k : Nat} {f : Addr} {x : Str} {st : Stmt} {fd : FuncData} {N ps : List Str} {sp : Sp} {c : Addr} (D : FnP K x x st f fd) (hcd : fd.code = .ref c) (S : FnScope N ps (defScope st))
    (len : ∀ vs H Q E, sp vs H Q E → vs.length = ps.length)
    (hbody : ∀ (A : Around) (outer : List Env) (s : Shared) (H : Hp) (vs : List V) (Q : VK) (E : XK), A.guards = some [] → Room k (A.deeper (envOfC x (defScope st) s.heap.objs.size f (.ref c))) → sp vs H Q E →
      ∃ t, PSs (cxOf CX P w K mg base N x (defScope st) f (.ref c) A outer s H E) (defBody st) t ∧ t { nx := fun _ H' => Q .non H', rt := Q } (start N vs) H) : FnG P w K mg base CX (k + 1) f fd ps sp := by
  obtain ⟨oc, od, dV, kV, doc, pm, an, cdv, ct, osl, rfl, lk, hcdi, _, _⟩ := D.ex
  obtain rfl : cdv = .ref c := hcd
  refine ⟨len, ?_⟩
  intro A outer s H args us vs Q E gA hr e0 hb r hsp
  have nv := len _ _ _ _ hsp
  have inK : K.In s.heap := e0.mod.kin.keeps fun b o z => (e0.bs b o z).1
  have nol : s.heap.NoLimit := e0.mod.nolimit.keeps fun b o z => (e0.bs b o z).1
  have kinds : ∀ y ∈ ps.zip us, (defScope st).names.lookup y.1 = some .local ∨ ((defScope st).names.lookup y.1 = some .cell ∧ ((cellsFrom (s.heap.objs.size + 1) (defScope st).names []).lookup y.1).isSome = true) := by
    intro y hy
    obtain ⟨n, v⟩ := y
    rcases S.par n (List.of_mem_zip hy).1 with z | z
    · exact Or.inl z
    · exact Or.inr ⟨z, PySem.W.cellsFrom_some _ _ _ (Or.inl z)⟩
  refine codeAny_call_function hr.depth (inK _ _ lk) rfl S.co S.gen rfl (PySem.W.codeRec_of inK hcdi) (hb _ _ _ _ ?_)
  refine wpAny_newFunctionEnv_cells S.kind kinds fun env he s1 c1 => ?_
  subst he
  refine ⟨nol.keeps c1.toInCall.keep, codeAny_func ?_⟩
  obtain ⟨t, ht, hq⟩ := hbody A outer s H vs Q E gA (hr.deeper _) hsp
  have I0 := inv_start (CX := CX) (E := E) S hr.hd e0 nv r c1
  refine wpAny_mono (ht.run [] s1 _ H _ I0 hq) (fun fl s' z => ?_) fun _ _ z => z
  cases fl with
  | ret u =>
    obtain ⟨v, τ, H', J, rv, q⟩ := z
    exact ⟨v, H', J.os, J.bare, J.base, J.hok, rv, q⟩
  | next =>
    obtain ⟨τ, H', J, q⟩ := z
    exact ⟨V.non, H', J.os, J.bare, J.base, J.hok, rfl, q⟩
  | brk => exact z.elim fun _ z => z.elim fun _ z => z.2.elim
  | cont => exact z.elim fun _ z => z.elim fun _ z => z.2.elim
structure CalG (P : Program) (w : World) (K : PySem.W.Frag) (mg : Str → Option Value) (base : Heap) (CX : CXT) (k : Nat) (x : Str) (ps : List Str) (sp : Sp) : Prop where
  ex : ∃ f fd, mg x = some (.ref f) ∧ PySem.W.keepIn K (.ref f) = true ∧ Binds K fd ps [] ∧ FnG P w K mg base CX k f fd ps sp
  own : ∀ f fd, mg x = some (.ref f) → (∃ oc od osl, K.lookup f = some ⟨oc, od, .func fd, osl⟩) → FnG P w K mg base CX k f fd ps sp
theorem calG_of {P : Program} {w : World} {K : PySem.W.Frag} {mg : Str → Option Value} {base : Heap} {CX : CXT} {x : Str} {st : Stmt} {N ps : List Str} {k : Nat} {sp : Sp} (F : At K mg x st) (S : FnScope N ps (defScope st)) (len : ∀ vs H Q E, sp vs H Q E → vs.length = ps.length)
    (hb : ∀ (kV doc pm : Value) (an : Option Addr) (cdv ct : Value) (us : List Value), us.length = ps.length → bindArgs (PySem.W.fnOf x x (defArgs st) (defBody st) (defScope st) .none kV doc pm an cdv ct) ⟨us, []⟩ = pure (ps.zip us))
    (hbody : ∀ (f : Addr) (cdv : Value) (A : Around) (outer : List Env) (s : Shared) (H : Hp) (vs : List V) (Q : VK) (E : XK), A.guards = some [] → Room k (A.deeper (envOfC x (defScope st) s.heap.objs.size f cdv)) → sp vs H Q E →
      ∃ t, PSs (cxOf CX P w K mg base N x (defScope st) f cdv A outer s H E) (defBody st) t ∧ t { nx := fun _ H' => Q .non H', rt := Q } (start N vs) H) : CalG P w K mg base CX (k + 1) x ps sp := by
  obtain ⟨f, fd, hm, D⟩ := F.ex
  have G := fnG_of (P := P) (w := w) (mg := mg) (base := base) (CX := CX) D S len fun cdv A outer s H vs Q E g hr h => hbody f cdv A outer s H vs Q E g hr h
  refine ⟨⟨f, fd, hm, D.kp, D.bindsN hb, G⟩, fun f2 fd2 h2 ⟨oc, od, osl, l2⟩ => ?_⟩
  obtain ⟨oc1, od1, dV, kV, doc, pm, an, cdv, ct, osl1, e1, l1, _⟩ := D.ex
  have e3 := hm.symm.trans h2
  cases e3
  have e4 := l1.symm.trans l2
  cases e4
  exact G
/-- .. whose code object is known -/
theorem calG_ofC {P : Program} {w : World} {K : PySem.W.Frag} {mg : Str → Option Value} {base : Heap} {CX : CXT} {x : Str} {st : Stmt} {N ps : List Str} {k : Nat} {sp : Sp} {c Pt : Addr} (F : AtC K mg base x st c Pt) (S : FnScope N ps (defScope st)) (len : ∀ vs H Q E, sp vs H Q E → vs.length = ps.length)
    (hb : ∀ (kV doc pm : Value) (an : Option Addr) (cdv ct : Value) (us : List Value), us.length = ps.length → bindArgs (PySem.W.fnOf x x (defArgs st) (defBody st) (defScope st) .none kV doc pm an cdv ct) ⟨us, []⟩ = pure (ps.zip us))
    (hbody : ∀ (f : Addr) (A : Around) (outer : List Env) (s : Shared) (H : Hp) (vs : List V) (Q : VK) (E : XK), A.guards = some [] → Room k (A.deeper (envOfC x (defScope st) s.heap.objs.size f (.ref c))) → sp vs H Q E →
      ∃ t, PSs (cxOf CX P w K mg base N x (defScope st) f (.ref c) A outer s H E) (defBody st) t ∧ t { nx := fun _ H' => Q .non H', rt := Q } (start N vs) H) : CalG P w K mg base CX (k + 1) x ps sp := by
  obtain ⟨f, fd, hm, D, hc⟩ := F.ex
  have G := fnG_ofC (P := P) (w := w) (mg := mg) (base := base) (CX := CX) D hc S len fun A outer s H vs Q E g hr h => hbody f A outer s H vs Q E g hr h
  refine ⟨⟨f, fd, hm, D.kp, D.bindsN hb, G⟩, fun f2 fd2 h2 ⟨oc, od, osl, l2⟩ => ?_⟩
  obtain ⟨oc1, od1, dV, kV, doc, pm, an, cdv, ct, osl1, e1, l1, _⟩ := D.ex
  have e3 := hm.symm.trans h2
  cases e3
  have e4 := l1.symm.trans l2
  cases e4
  exact G
section
variable {X : Cx} {k : Nat} {x : Str} {ps : List Str} {sp : Sp} {e : Expr} {es : List Expr} {t : TA} {p pos : Pos}
theorem pe_calG (C : CalG X.prog X.w X.K X.mg X.base CX0 k x ps sp) (gA : X.A.guards = some []) (hr : Room k X.A) (hg : Gl X x) (ha : PA X (e :: es) t) (hdb : (x == ("__debug__" : Str)) = false := by decide)
    (he : starEach (e :: es) X.env = (false, eval e X.env) :: starEach es X.env := by rfl) (hpl : (backTo pos (starEach es X.env)).any (·.1) = false := by rfl) : PE X (.Call (.Name x p) (e :: es) [] pos) (tCall sp [] E0 t) := by
  obtain ⟨f, fd, hm, hk, hb, Ff⟩ := C.ex
  refine ⟨fun pins s σ H Q I h => ?_⟩
  refine wpAny_Call_Name_kw (ld_glob I hg hm ?_ hdb)
  refine PySem.W.callWith_K (h₀ := X.base) I.ok.mod.kin hk (thn (ha.run pos pins s σ H _ I h) fun us s1 ⟨vs, H1, I1, r, q⟩ => ⟨I1.kIn, ?_⟩) he hpl
  have q2 : sp vs H1 Q E0 := by
    have q' : sp (vs ++ []) H1 Q E0 := q
    rw [List.append_nil] at q'
    exact q'
  have nl : us.length = ps.length := by
    rw [← r.length]
    exact Ff.len _ _ _ _ q2
  have bb := hb s1 us I1.kIn (by rw [List.append_nil]; exact nl)
  rw [List.append_nil] at bb
  refine wpAny_call (codeAny_mono (Ff.go X.A X.stack s1 H1 ⟨us, []⟩ us vs Q E0 gA hr I1.env0 bb r q2) fun res s2 z => ?_)
  cases res with
  | error er => exact False.elim z
  | ok fl =>
    cases fl with
    | next => exact False.elim z
    | brk => exact False.elim z
    | cont => exact False.elim z
    | ret u => exact I1.after z
/-- repr of data that stands at an address -/
theorem call_reprD (gA : X.A.guards = some []) (hu : X.A.units + 64 < cLine) : CallR X (.builtin "repr") (fun xs H Q => ∃ a d, xs = [.ref a] ∧ Dp X.K H (.ref a) d ∧ d.showable = true ∧ d.hasDict = false ∧ d.depth ≤ 62 ∧ d.shown.length ≤ sizeLine ∧ Q (.str d.shown) H) := by
  intro pins s σ H xs us Q I r h
  obtain ⟨a, d, rfl, hd, hs, hnd, hdep, hsz, q⟩ := h
  obtain ⟨u, rfl, ru⟩ := vals1 r
  cases (show u = Value.ref a from ru)
  obtain ⟨as, rd⟩ := Dp.reads I d (.ref a) (.ref a) hd rfl
  exact repr_of_reads' rd hs (PyData.noDict_hsm hnd) gA (by omega) (fun _ _ z => z) (fun h' u tk hk => ⟨.str d.shown, H, I.kept hk, ⟨u, rfl⟩, q⟩) hsz
end
/-! ### the law's own call -/
/-- the law's promise, over a heap of which H tracks the tables of code objects and at most the script -/
theorem law_coreT {P : Program} {w : World} {K : PySem.W.Frag} {mg mb : Str → Option Value} {k : Nat} {fa a : Addr} {fd : FuncData} {x : Str} {sp : Sp} {s : Shared} {vs : List Value} {H : Hp} {cs : List (Addr × Addr)}
    (KX : K.In s.heap) (hns : s.heap.Ns mainGlobals mg) (hbl : s.heap.Ns builtinsNs mb) (hbb : ∀ y : Str, y ≠ "__name__" → mb y = bootBuiltins y) (hlim : s.heap.NoLimit) (hgen : s.gens = #[])
    (hT : ∀ p ∈ cs, s.heap.get? p.2 = some { cls := .none, data := .fields #[] }) (nT : ∀ p ∈ cs, K.lookup p.2 = none) (C : ∀ p ∈ cs, PySem.W.CodeHd s.heap p.1 p.2)
    (hbm : ∃ (bm : Addr) (ob : Obj), mg "__builtins__" = some (.ref bm) ∧ bm ≠ builtinsNs ∧ s.heap.get? bm = some ob ∧ ob.cls = .type "module" ∧ ob.dict = some builtinsNs ∧ ob.data = .plain)
    (ho : s.heap.get? a = some { cls := .type "list", data := .seq vs.toArray }) (hr : Room k callerA) (F : ∀ base : Heap, K.In base → base.Ns mainGlobals mg → (∀ p ∈ cs, TabB base mg p.1 p.2) → FnG P w K mg base CX0 k fa fd [x] sp)
    (hbind : ∀ (s : Shared) (u : Value), BindsTo s fd ⟨[u], []⟩ [(x, u)]) (hsp : sp [.ref a] H (fun v _ => v = .bl true) fun _ _ _ => False) (hH : ∀ p ∈ cs, H p.2 = some (.tbl #[]))
    (hO : ∀ b, H b = none ∨ b ∈ cs.map (·.2) ∨ ∃ o xs, H b = some (.frz o (.lst xs))) (hok : HOk P w H s.heap) (one : ∀ b, b ≠ a → b ∉ cs.map (·.2) → H b = none) (noK : H a = none ∨ K.lookup a = none) :
    codeAny (model P w) callerA (.call (.ref fa) ⟨[.ref a], []⟩) (fun r s' => r = .ok (.ret (.bool true)) ∧ OldK s.heap s'.heap ∧ s'.os = s.os ∧ AllBare s'.gens) s := by
  have tab : ∀ {b : Addr}, b ∈ cs.map (·.2) → s.heap.get? b = some { cls := .none, data := .fields #[] } := fun {b} hb => by
    obtain ⟨p, hp, e⟩ := List.mem_map.mp hb
    rw [← e]
    exact hT p hp
  -- an object that is neither a list nor an empty table is not tracked
  have free : ∀ {b : Addr} {o : Obj}, s.heap.get? b = some o → (∀ us n, o.data ≠ .seq us n) → o.data ≠ .fields #[] → H b = none := fun {b o} e h1 h2 => by
    refine one b (fun z => ?_) fun z => ?_
    · rw [z, ho] at e
      cases e
      exact h1 _ _ rfl
    · rw [tab z] at e
      cases e
      exact h2 rfl
  have dicts : ∀ {b : Addr} {m : Str → Option Value}, s.heap.Ns b m → (hidT s.heap H).Ns b m := by
    intro b m ⟨ob, es, ep, e1, e2, e3⟩
    refine ⟨ob, es, ep, hidT_get e1 (free e1 (fun us n z => ?_) fun z => ?_), e2, e3⟩
    · rw [e2] at z
      cases z
    · rw [e2] at z
      cases z
  have inB : K.In (hidT s.heap H) := by
    intro b o hb
    refine hidT_get (KX b o hb) ?_
    by_cases hba : b = a
    · rcases noK with z | z
      · rw [hba]
        exact z
      · rw [hba, z] at hb
        cases hb
    · refine one b hba fun z => ?_
      obtain ⟨p, hp, e⟩ := List.mem_map.mp z
      rw [← e, nT p hp] at hb
      cases hb
  have md : L2.Mod K mg (hidT s.heap H) := by
    refine ⟨inB, dicts hns, ⟨mb, dicts hbl, hbb⟩, ?_⟩
    obtain ⟨mc, l1, l2⟩ := hlim
    exact ⟨mc, dicts l1, l2⟩
  have TB : ∀ p ∈ cs, TabB (hidT s.heap H) mg p.1 p.2 := fun p hp => by
    have hTp := hT p hp
    refine ⟨?_, ?_, fun z => ?_⟩
    · obtain ⟨o, us, file, tf, flags, tg, inF, text, tt, e1, r1, r2, r3, rest⟩ := C p hp
      refine ⟨o, us, file, tf, flags, tg, inF, text, tt, hidT_get e1 (free e1 (fun us n z => ?_) fun z => ?_), r1, r2, r3, rest⟩
      · rw [r2] at z
        cases z
      · rw [r2] at z
        cases z
        simp at r3
    · obtain ⟨bm, ob, b1, b2, b3, b4, b5, b6⟩ := hbm
      have nG : bm ≠ mainGlobals := fun q => by
        obtain ⟨o, es, ep, e, hd, _⟩ := hns
        rw [q, e] at b3
        cases b3
        rw [hd] at b6
        cases b6
      have nP : bm ≠ p.2 := fun q => by
        rw [q, hTp] at b3
        cases b3
        cases b6
      refine ⟨bm, ob, b1, b2, nG, nP, hidT_get b3 (free b3 (fun us n z => ?_) fun z => ?_), b4, b5, b6⟩
      · rw [b6] at z
        cases z
      · rw [b6] at z
        cases z
    · obtain ⟨o, es, ep, e, hd, _⟩ := hns
      rw [z, hTp] at e
      cases e
      cases hd
  have ev : Env0 P w K mg (hidT s.heap H) callerA [] s H := {
    frames := rfl
    mod := md
    bs := fun b o z => of_hidT z
    bsz := Nat.le_of_eq (hidT_size _ _)
    funs := trivial
    frf := fun b z => by cases z
    hok := hok
    bare := .of_eq hgen }
  refine codeAny_mono ((F _ inB (dicts hns) TB).go callerA [] s H ⟨[.ref a], []⟩ [.ref a] [.ref a] _ _ rfl hr ev (hbind s (.ref a)) (.cons rfl .nil) hsp) fun r s' z => ?_
  cases r with
  | error e => exact z.elim
  | ok fl =>
    cases fl with
    | next => exact z.elim
    | brk => exact z.elim
    | cont => exact z.elim
    | ret u =>
      obtain ⟨v, H', hos, hbare, hun, hok', hv, rfl⟩ := z
      cases (show u = Value.bool true from hv)
      have key : ∀ b o, b ∉ cs.map (·.2) → s.heap.get? b = some o → s'.heap.get? b = some o := fun b o nb hb => by
        rcases hO b with n | n | ⟨ob, xs, n⟩
        · exact hun.keep b o hb n (fun y => by cases y) (fun y => by cases y)
        · exact absurd n nb
        · obtain ⟨o1, _⟩ := hok b _ n
          obtain ⟨o2, _⟩ := hok' b _ (hun.frzs b ob _ n)
          rw [hb] at o1
          cases o1
          exact o2
      have grown : ∀ p ∈ cs, ∃ more : Array Value, s'.heap.get? p.2 = some { cls := .none, data := .fields more } := fun p hp => by
        obtain ⟨more, z⟩ := hun.tbls p.2 #[] (hH p hp)
        exact ⟨_, hok' p.2 _ z⟩
      refine ⟨rfl, ⟨fun b o e => ?_, fun b o e => ?_⟩, hos, hbare⟩
      · by_cases hb : b ∈ cs.map (·.2)
        · obtain ⟨p, hp, ep⟩ := List.mem_map.mp hb
          obtain ⟨more, hm⟩ := grown p hp
          rw [← ep] at e ⊢
          rw [hT p hp] at e
          cases e
          exact .inr (.inl ⟨((C p hp).tab (hT p hp)).isCodeTable, rfl, #[], more, rfl, by rw [Array.empty_append]; exact hm⟩)
        · exact .inl (key b o hb e)
      · by_cases hb : b ∈ cs.map (·.2)
        · obtain ⟨p, hp, ep⟩ := List.mem_map.mp hb
          obtain ⟨more, hm⟩ := grown p hp
          rw [← ep]
          exact ⟨_, hm⟩
        · exact ⟨o, key b o hb e⟩
end T83

set_option Elab.async false
set_option linter.all false
set_option maxRecDepth 100000
set_option maxHeartbeats 2000000
/-! machines may be shown -/
namespace T83
open PySem PySem.Spec PyProof.Rows L2 RZ
structure ShT (d : PyData) : Prop where
  s : d.showable = true
  n : d.hasDict = false
  dep : d.depth ≤ 62
  l : d.shown.length ≤ sizeLine
theorem strJoin_len : ∀ ts : List Str, (Str.join ", " ts).length ≤ (ts.map Str.length).sum + 2 * ts.length
  | [] => Nat.zero_le _
  | [x] => by simp [Str.join]
  | x :: y :: r => by
    have ih := strJoin_len (y :: r)
    show (x ++ ", " ++ Str.join ", " (y :: r)).length ≤ _
    have e2 : ((", " : String) : Str).length = 2 := rfl
    rw [strLen_append, strLen_append, e2, List.map_cons, List.sum_cons, List.length_cons]
    omega
theorem tupText_len (ts : List Str) : (tupleText ts).length ≤ (ts.map Str.length).sum + 2 * ts.length + 3 := by
  unfold tupleText
  rw [strLen_append, strLen_append]
  have e1 : ((("(" : String) : Str)).length = 1 := rfl
  have e3 : (((if ts.length == 1 then ",)" else ")" : String) : Str)).length ≤ 2 := by split <;> decide
  have := strJoin_len ts
  rw [e1]
  omega
theorem shownAll_len : ∀ ds : List PyData, (PyData.shownAll ds).length = ds.length
  | [] => by rw [PyData.shownAll]; rfl
  | d :: ds => by rw [PyData.shownAll, List.length_cons, List.length_cons, shownAll_len ds]
/-- shown within B signs -/
def Sw (B : Nat) (d : PyData) : Prop := d.showable = true ∧ d.shown.length ≤ B
theorem sw_all {B : Nat} : ∀ ds : List PyData, (∀ d ∈ ds, Sw B d) → PyData.showableAll ds = true ∧ ((PyData.shownAll ds).map Str.length).sum ≤ B * ds.length
  | [], _ => by
    rw [PyData.showableAll, PyData.shownAll]
    exact ⟨rfl, by simp⟩
  | d :: ds, h => by
    obtain ⟨h1, h2⟩ := h d List.mem_cons_self
    obtain ⟨h3, h4⟩ := sw_all ds fun x hx => h x (List.mem_cons_of_mem _ hx)
    rw [PyData.showableAll, PyData.shownAll, h1, h3, List.map_cons, List.sum_cons, List.length_cons, Nat.mul_succ]
    exact ⟨rfl, by omega⟩
theorem sw_tup {B n : Nat} {ds : List PyData} (h : ∀ d ∈ ds, Sw B d) (hn : ds.length ≤ n) : Sw (B * n + 2 * n + 3) (.tuple ds) := by
  obtain ⟨h1, h2⟩ := sw_all ds h
  refine ⟨by rw [PyData.showable]; exact h1, ?_⟩
  rw [PyData.shown]
  have := tupText_len (PyData.shownAll ds)
  rw [shownAll_len] at this
  have h3 : B * ds.length ≤ B * n := Nat.mul_le_mul_left B hn
  omega
theorem Sw.mono {B C : Nat} {d : PyData} (h : Sw B d) (l : B ≤ C) : Sw C d := ⟨h.1, Nat.le_trans h.2 l⟩
theorem sw_int {i : Int} (h1 : 0 ≤ i) (h2 : i ≤ 10 ^ 6) : Sw 7 (.int i) := by
  refine ⟨?_, ?_⟩
  · rw [PyData.showable]
    refine decide_eq_true ?_
    by_cases h0 : i.natAbs = 0
    · rw [h0]
      decide
    · exact (Nat.log2_lt h0).mpr (Nat.lt_trans (show i.natAbs < 2 ^ 20 by omega) (Nat.pow_lt_pow_right (by decide) (by decide)))
  · rw [PyData.shown]
    exact toString_length_le h1 (by decide) (by omega)
theorem sw_str {z : Str} (h : isLet z = true) (hl : z.length ≤ 16) : Sw 162 (.str z) := by
  refine ⟨by rw [PyData.showable], ?_⟩
  rw [PyData.shown]
  have := StrLaws.reprText_len z fun c hc => by
    unfold isLet at h
    have h2 := of_decide_eq_true (List.all_eq_true.mp h c hc)
    have e3 : (Str.ofString "abcdefghijkl").cps.toList = [97, 98, 99, 100, 101, 102, 103, 104, 105, 106, 107, 108] := by decide +kernel
    rw [e3] at h2
    have : c ≤ 108 := by
      simp only [List.mem_cons, List.not_mem_nil, or_false] at h2
      omega
    exact Nat.lt_of_le_of_lt this (by decide)
  omega
theorem sw_M {m : Mach} (h : okM m = true) : Sw 40000 (dM m) := by
  obtain ⟨h1, h2, h3, h4, h5⟩ := okM_of h
  have rows : Sw 31000 (.tuple (m.2.map dRow)) := by
    refine (sw_tup (B := 1922) (n := 16) (fun d hd => ?_) (by rw [List.length_map]; omega)).mono (by decide)
    obtain ⟨r, hr, rfl⟩ := List.mem_map.mp hd
    obtain ⟨r1, r2, r3, _⟩ := okRow_of (h5 r hr)
    refine (sw_tup (B := 477) (n := 4) (fun d hd => ?_) (by rw [List.length_map]; omega)).mono (by decide)
    obtain ⟨c, hc, rfl⟩ := List.mem_map.mp hd
    obtain ⟨c1, c2⟩ := okC_of (r3 c hc)
    obtain ⟨p1, p2, p3, p4⟩ := okPr_of c2
    have hp := okPr_prs c2 (by omega)
    have prt : Sw 463 (dPr c.2) := by
      refine (sw_tup (B := 21) (n := 20) (fun d hd => ?_) (by rw [List.length_map]; exact hp.few)).mono (by decide)
      obtain ⟨q, hq, rfl⟩ := List.mem_map.mp hd
      have := p2 q hq
      refine (sw_tup (B := 7) (n := 2) (fun d hd => ?_) (by show 2 ≤ 2; decide)).mono (by decide)
      simp only [List.mem_cons, List.not_mem_nil, or_false] at hd
      rcases hd with e | e <;> rw [e]
      · exact sw_int (by omega) (by omega)
      · exact sw_int (by omega) (by omega)
    have h7 : Sw 463 (.int c.1) := (sw_int c1.1 c1.2).mono (by decide)
    unfold dC
    refine ⟨?_, ?_⟩
    · rw [PyData.showable, PyData.showableAll, PyData.showableAll, PyData.showableAll, h7.1, prt.1]
      rfl
    · rw [PyData.shown, PyData.shownAll, PyData.shownAll, PyData.shownAll]
      have a1 := tupText_len [(PyData.int c.1).shown, (dPr c.2).shown]
      have a2 := (sw_int c1.1 c1.2).2
      have a3 := prt.2
      simp only [List.map_cons, List.map_nil, List.sum_cons, List.sum_nil, List.length_cons, List.length_nil] at a1
      omega
  have hs := sw_str h3 (by omega)
  unfold dM
  refine ⟨?_, ?_⟩
  · rw [PyData.showable, PyData.showableAll, PyData.showableAll, PyData.showableAll, hs.1, rows.1]
    rfl
  · rw [PyData.shown, PyData.shownAll, PyData.shownAll, PyData.shownAll]
    have a1 := tupText_len [(PyData.str m.1).shown, (PyData.tuple (m.2.map dRow)).shown]
    have a2 := hs.2
    have a3 := rows.2
    simp only [List.map_cons, List.map_nil, List.sum_cons, List.sum_nil, List.length_cons, List.length_nil] at a1
    omega
end T83

set_option Elab.async false
set_option linter.all false
set_option maxRecDepth 100000
set_option maxHeartbeats 2000000
namespace T83
open PySem PySem.Spec PyProof.Rows L2 RZ LamX
/-! ### the account -/
def nmL : List Str := ["a", "b", "c", "try", "abcdefgh"]
structure AOk (acc : Acc) : Prop where
  nd : (acc.map (·.1)).Nodup
  nm : ∀ e ∈ acc, e.1 ∈ nmL
  ok : ∀ e ∈ acc, okM e.2 = true
theorem AOk.len {acc : Acc} (h : AOk acc) : acc.length ≤ 5 := by
  have := nodup_few (acc.map (·.1)) nmL h.nd fun x hx => by
    obtain ⟨e, he, rfl⟩ := List.mem_map.mp hx
    exact h.nm e he
  rw [List.length_map] at this
  exact this
theorem AOk.eg {es : List Ent} (h : AOk (accE es)) : EG es := fun e he => by
  have := h.ok (e.1, e.2.2) (List.mem_map.mpr ⟨e, he, rfl⟩)
  exact ⟨okM_sml this, (okM_of this).2.2.2.1⟩
theorem AOk.eps {es : List Ent} (h : AOk (accE es)) : EPs es := fun e he => okM_prs (h.ok (e.1, e.2.2) (List.mem_map.mpr ⟨e, he, rfl⟩))
theorem AOk.put {acc : Acc} (h : AOk acc) {z : Str} {m : Mach} (hz : z ∈ nmL) (hm : okM m = true) : AOk (putA acc z m) := by
  refine ⟨putA_nodup h.nd, fun e he => ?_, fun e he => ?_⟩
  · rcases mem_put he with q | q
    · exact h.nm e q
    · rw [q]
      exact hz
  · rcases mem_put he with q | q
    · exact h.ok e q
    · rw [q]
      exact hm
theorem getA_acc {acc : Acc} {z : Str} {m : Mach} (h : getA acc z = some m) : (z, m) ∈ acc := getA_mem h
/-- nothing, or a table, stands there -/
def NewN (H : Hp) (b : Addr) : Prop := ∀ o, H b = some o → ∃ ps, o = .tbl ps
theorem newN_ext {H H' : Hp} (e : ExtN H H') {b : Addr} (h : H' b = none) : NewN H b := fun o ho => Classical.byContradiction fun n => by
  rw [e b o ho fun ps z => n ⟨ps, z⟩] at h
  cases h
theorem NewN.ne {H : Hp} {a b : Addr} {o : HO} (h : NewN H b) (e : H a = some o) (n : ∀ ps, o ≠ .tbl ps) : a ≠ b := fun z => by
  rw [z] at e
  obtain ⟨ps, q⟩ := h o e
  exact n ps q
/-- after an order: nothing has been done, or one step -/
def Moved (K : PySem.W.Frag) (T : List (Addr × Str)) (l p dx lp lf an : Addr) (past : List Addr) (cur : Addr) (fut : List Addr) (H : Hp) (Q : VK) : Prop :=
  ∀ H' t y, Kt [l, p, lp] H H' → Bowl H' l → Tabs T H' → H' t = some (.tup [.bl true, y]) →
    ((y = .non ∧ Shf K H' p dx lp lf an past cur fut) ∨ (∃ dl lf' an' cu es' fs', y = .ref dl ∧ dl ≠ cu ∧ NewN H lf' ∧ DE H' dl fs' ∧ DE H' cu es' ∧ accE es' = accE fs' ∧ AOk (accE fs') ∧ Shf K H' p dx lp lf' an' (past ++ [cur]) cu [])) → Q (.ref t) H'
structure HeardOk (P : Program) (w : World) (K : PySem.W.Frag) (mg : Str → Option Value) (base : Heap) : Prop where
  ex : ∃ g fd, mg "_law_heard" = some (.ref g) ∧ PySem.W.keepIn K (.ref g) = true ∧ Binds K fd ["call"] [] ∧ LamOk P w K mg base CX0 3 g fd "call" (spHeard K)
section
variable {P : Program} {w : World} {K : PySem.W.Frag} {mg : Str → Option Value} {base : Heap}
/-! ### _law_changed -/
abbrev sLChanged : Stmt := top 118
abbrev nLChanged : List Str := ["bowl", "shelf", "account", "name", "size", "place", "index", "turn", "goal", "number", "way", "told", "why", "machine", "later"]
theorem scLChanged : FnScope nLChanged ["bowl", "shelf", "account"] (defScope sLChanged) := ⟨rfl, rfl, rfl, by decide +kernel, rfl, by decide +kernel, by decide +kernel⟩
def spLChanged (K : PySem.W.Frag) (T : List (Addr × Str)) : Sp := fun vs H Q _ => ∃ l p da dx lp lf an past cur fut es fs, vs = [.ref l, .ref p, .ref da] ∧ Bowl H l ∧ Tabs T H ∧ Shf K H p dx lp lf an past cur fut ∧ DE H cur es ∧ DE H da fs ∧ accE es = accE fs ∧ AOk (accE fs) ∧ past.length ≤ 1000 ∧ l ≠ lp ∧ l ≠ lf ∧
  Moved K T l p dx lp lf an past cur fut H Q
theorem passL {X : Cx} {A : Around} {outer : List Env} {s : Shared} {H : Hp} {E : XK} {scope : Scope} {f c' : Addr} : Passes (L2.CX X.prog X.w) (lamCx X A outer s H E scope f c') E :=
  passes_call (takes_of rfl rfl rfl rfl) fun _ _ _ _ h => h
abbrev xLChanged (P : Program) (w : World) (K : PySem.W.Frag) (mg : Str → Option Value) (base : Heap) (f c : Addr) (A : Around) (outer : List Env) (s : Shared) (H : Hp) (E : XK) : Cx := (cxOf CX0 P w K mg base nLChanged "_law_changed" (defScope sLChanged) f (.ref c) A outer s H E).nox
theorem shaped_two {a b : Str} (h1 : PyData.strOk a = true) (h2 : PyData.strOk b = true) : SeqAt.shaped (.tuple [.str a, .str b]) = true := by
  unfold SeqAt.shaped
  rw [PyData.canLay0, PyData.canLayAll0, PyData.canLayAll0, PyData.canLayAll0, PyData.canLay0, PyData.canLay0, h1, h2, PyData.depth, PyData.depthAll, PyData.depthAll, PyData.depthAll, PyData.depth, PyData.depth]
  rfl
theorem shaped_non {a : Str} (h1 : PyData.strOk a = true) : SeqAt.shaped (.tuple [.str a, .none]) = true := by
  unfold SeqAt.shaped
  rw [PyData.canLay0, PyData.canLayAll0, PyData.canLayAll0, PyData.canLayAll0, PyData.canLay0, PyData.canLay0, h1, PyData.depth, PyData.depthAll, PyData.depthAll, PyData.depthAll, PyData.depth, PyData.depth]
  rfl
theorem strOk_app {a b : Str} (h1 : PyData.strOk a = true) (h2 : PyData.strOk b = true) : PyData.strOk (a ++ b) = true := by
  unfold PyData.strOk at *
  show (a.cps ++ b.cps).all _ = true
  rw [Array.all_append, h1, h2]
  rfl
theorem eqv_two (a b c d : Str) : PyData.eqv (.tuple [.str a, .str b]) (.tuple [.str c, .str d]) = (a == c && b == d) := by
  show PyData.eqvAll [.str a, .str b] [.str c, .str d] = _
  rw [PyData.eqvAll, PyData.eqvAll, PyData.eqvAll, PyData.eqv, PyData.eqv, Bool.and_true]
theorem eqv_toldN (a : Str) : PyData.eqv (.tuple [.str a, .none]) (.tuple [.str a, .none]) = true := by
  show PyData.eqvAll [.str a, .none] [.str a, .none] = true
  rw [PyData.eqvAll, PyData.eqvAll, PyData.eqvAll, PyData.eqv, PyData.eqv, beq_self_eq_true]
  rfl
theorem dp_two {H : Hp} {t : Addr} {a b : Str} (h : H t = some (.tup [.str a, .str b])) : Dp K H (.ref t) (.tuple [.str a, .str b]) := .tup (SqT.of h) (.cons (.str _) (.cons (.str _) .nil))
theorem dp_non {H : Hp} {t : Addr} {a : Str} (h : H t = some (.tup [.str a, .non])) : Dp K H (.ref t) (.tuple [.str a, .none]) := .tup (SqT.of h) (.cons (.str _) (.cons .non .nil))
theorem merge_new : ∀ (more acc : List (Key × V)), ((acc ++ more).map (·.1)).Nodup → mergeK acc more = acc ++ more
  | [], acc, _ => by rw [List.append_nil]; rfl
  | kv :: more, acc, h => by
    have hn : kv.1 ∉ acc.map (·.1) := fun hm => by
      rw [List.map_append, List.map_cons, List.nodup_append] at h
      exact h.2.2 _ hm _ List.mem_cons_self rfl
    have e : putK acc kv.1 kv.2 = acc ++ [kv] := putA_new kv.2 hn
    show mergeK (putK acc kv.1 kv.2) more = _
    rw [e, merge_new more (acc ++ [kv]) (by rw [List.append_assoc]; exact h), List.append_assoc]
    rfl
theorem merge_kvE {es : List Ent} (nd : (es.map (·.1)).Nodup) : mergeK [] (kvE es) = kvE es := by
  rw [merge_new, List.nil_append]
  rw [List.nil_append]
  unfold kvE
  rw [List.map_map]
  exact List.pairwise_map.mpr ((List.pairwise_map.mp nd).imp fun h e => h (inr_inj _ _ e))
theorem merge_put {es : List Ent} (nd : (es.map (·.1)).Nodup) (z : Str) (v : V) (m : Mach) : mergeK [] (kvE es ++ [((Sum.inr z : Key), v)]) = kvE (putA es z (v, m)) := by
  have : mergeK [] (kvE es ++ [((Sum.inr z : Key), v)]) = putK (mergeK [] (kvE es)) (Sum.inr z) v := by
    unfold mergeK
    rw [List.foldl_append]
    rfl
  rw [this, merge_kvE nd, kvE_put]
theorem paired_app {α β : Type} {F : α → β → Prop} : ∀ {l₁ : List α} {l₂ : List β} {a : α} {b : β}, Paired F l₁ l₂ → F a b → Paired F (l₁ ++ [a]) (l₂ ++ [b])
  | _, _, _, _, .nil, h => .cons h .nil
  | _, _, _, _, .cons k t, h => .cons k (paired_app t h)
theorem AOk.ndE {es : List Ent} (h : AOk (accE es)) : (es.map (·.1)).Nodup := by
  have := h.nd
  unfold accE at this
  rw [List.map_map] at this
  exact this
theorem changed_done {c : Addr} (F : Fx K mg) (f : Addr) (A : Around) (outer : List Env) (s : Shared) (H : Hp) (E : XK) (hr : Room 11 (A.deeper (envOfC "_law_changed" (defScope sLChanged) s.heap.objs.size f (.ref c)))) :
    ∃ tT : TS, PSs (xLChanged P w K mg base f c A outer s H E) ((defBody sLChanged).drop 11) tT ∧
      ∀ (l p da t : Addr) (fs : List Ent) (z way : Str) (yp yi yg : V) (n size : Int) (u7 : Option V) (H2 : Hp) (Q : VK) (v y : V) (o : Option Mach), DE H2 da fs → AOk (accE fs) → OM H2 y o →
        (o = none → H2 t = some (.tup [.str "raised", .str "machine"]) ∧ ∀ H' u, Same H2 H' → H' u = some (.tup [.bl true, .non]) → Q (.ref u) H') →
        (∀ m', o = some m' → H2 t = some (.tup [.str "told", .non]) ∧ ∀ H' u dl b, H2 dl = none → Same H2 H' → H' u = some (.tup [.bl true, .ref dl]) → DE H' dl (putA fs z (.ref b, m')) → Q (.ref u) H') →
        tT { nx := fun _ H' => Q .non H', rt := Q } [some (.ref l), some (.ref p), some (.ref da), some (.str z), some (.int size), some yp, some yi, u7, some yg, some (.int n), some (.str way), some (.ref t), some .non, some v, some y] H2 := by
  refine ⟨_, pss_cons (ps_if (pt_cmpR op_isN (pv 14) pe_non (nomark _)) (pss_one (ps_ret (pe_tup (pa_cons (pe_cmpR (op_eqD hr.units) (pv 11) (pe_tup (pa_cons pe_str (pa_cons pe_str pa_nil))) (nomark _)) (pa_cons pe_non pa_nil))))) pss_nil)
    (pss_one (ps_ret (pe_tup (pa_cons (pe_cmpR (op_eqD hr.units) (pv 11) (pe_tup (pa_cons pe_str (pa_cons pe_non pa_nil))) (nomark _)) (pa_cons (pe_callTy (call_dictP rfl) (by rfl) (F.b "dict" (by decide)) (by decide +kernel) (pa_cons (pe_op op_cat (LiI.pe_listItems rfl (pv 2) (by rfl) (F.b "list" (by decide)) (by decide +kernel)) (pe_lst (pa_cons (pe_tup (pa_cons (pv 3) (pa_cons (pv 14) pa_nil))) pa_nil))) pa_nil)) pa_nil))))), ?_⟩
  intro l p da t fs z way yp yi yg n size u7 H2 Q v y o hE hA hO h1 h2
  refine ⟨_, rfl, rfl, _, rfl, ?_⟩
  cases hO with
  | non =>
    obtain ⟨hT, hq⟩ := h1 rfl
    refine iteT ⟨_, rfl, two_le2, fun u hu => ?_⟩
    have su : Same H2 (upd H2 u (.tup [.str "raised", .str "machine"])) := same_laid hu
    refine ⟨_, _, dp_two (su _ _ hT), dp_two upd_same, shaped_two (by decide +kernel) (by decide +kernel), shaped_two (by decide +kernel) (by decide +kernel), two_le2, fun v hv => ?_⟩
    rw [eqv_two, beq_self_eq_true, beq_self_eq_true]
    exact hq _ v (su.trans (same_laid hv)) upd_same
  | @m y m' hm =>
    obtain ⟨hT, hq⟩ := h2 m' rfl
    obtain ⟨a, b, xs, rfl, ha, hb, hxs⟩ := mach_of hm
    refine iteF ⟨_, rfl, two_le2, fun u hu => ?_⟩
    have su : Same H2 (upd H2 u (.tup [.str "told", .non])) := same_laid hu
    refine ⟨_, _, dp_non (su _ _ hT), dp_non upd_same, shaped_non (by decide +kernel), shaped_non (by decide +kernel), ?_⟩
    rw [eqv_toldN]
    generalize upd H2 u (.tup [.str "told", .non]) = H3 at su
    refine ⟨_, rfl, da, kvE fs, rfl, su _ _ hE.at_, fun H4 q ts k4 hq4 hts hqt hl4 hp4 => ?_⟩
    refine ⟨_, rfl, _, rfl, two_le2, fun w hw => ?_⟩
    have hfl := hA.len
    rw [accE_len] at hfl
    have hll : ts.length ≤ 5 := by
      rw [hp4.length, kvE_len]
      exact hfl
    have s5 : Same H4 (upd H4 w (.tup [.str z, .ref a])) := same_laid hw
    have hw5 : (upd H4 w (.tup [.str z, .ref a])) w = some (.tup [.str z, .ref a]) := upd_same
    generalize upd H4 w (.tup [.str z, .ref a]) = H5 at s5 hw5
    refine ⟨by show 1 ≤ sizeLine; rw [sizeLine_eq]; decide, fun x hx => ?_⟩
    have s6 : Same H5 (upd H5 x (.lst [.ref w])) := same_laid hx
    have hx6 : (upd H5 x (.lst [.ref w])) x = some (.lst [.ref w]) := upd_same
    generalize upd H5 x (.lst [.ref w]) = H6 at s6 hx6
    refine ⟨q, x, _, _, rfl, rfl, s6 _ _ (s5 _ _ hl4), hx6, by rw [List.length_map, sizeLine_eq, List.length_singleton]; omega, fun r hr2 => ?_⟩
    have s7 : Same H6 (upd H6 r (.lst (ts.map V.ref ++ [.ref w]))) := same_laid hr2
    have sA : Same H4 (upd H6 r (.lst (ts.map V.ref ++ [.ref w]))) := (s5.trans s6).trans s7
    have e7 : ts.map V.ref ++ [V.ref w] = (ts ++ [w]).map V.ref := by simp
    refine ⟨r, ts ++ [w], kvE fs ++ [((Sum.inr z : Key), V.ref a)], rfl, SqL.of (by rw [upd_same, e7]), paired_app (L2.Paired.mapP hp4 fun t kv h => SqT.of (sA _ _ h)) (SqT.of ((s6.trans s7) _ _ hw5)), fun dl hdl => ⟨two_le2, fun u2 hu2 => ?_⟩⟩
    rw [merge_put hA.ndE (m := m')] at hu2 ⊢
    have sB : Same H2 (upd (upd (upd H6 r (.lst (ts.map V.ref ++ [.ref w]))) dl (.dK (kvE (putA fs z (.ref a, m'))))) u2 (.tup [.bl true, .ref dl])) := (((su.trans k4).trans sA).trans (same_laid hdl)).trans (same_laid hu2)
    refine hq _ u2 dl a (((su.trans k4).trans sA).free hdl) sB upd_same ⟨?_, ?_⟩
    · rw [upd_ne (ne_of_none upd_same hu2)]
      exact upd_same
    · exact (hE.ok.keep sB.tups).put (hm.keep sB.tups)
theorem changed_rest {c : Addr} (F : Fx K mg)
    (G2 : Cal P w K mg base CX0 2 "_law_wrong" ["bowl", "account", "name", "place", "index", "goal", "number", "way"] spLWrong)
    (G3 : Cal P w K mg base CX0 3 "_law_parted" ["machine", "place", "index", "goal", "number"] spLParted) (G4 : Cal P w K mg base CX0 3 "_law_priced" ["machine", "place", "index", "number"] spLPriced) (G5 : Cal P w K mg base CX0 3 "_law_lessened" ["machine", "place", "index"] spLLess)
    (f : Addr) (A : Around) (outer : List Env) (s : Shared) (H : Hp) (E : XK) (hr : Room 11 (A.deeper (envOfC "_law_changed" (defScope sLChanged) s.heap.objs.size f (.ref c)))) :
    ∃ tT : TS, PSs (xLChanged P w K mg base f c A outer s H E) ((defBody sLChanged).drop 7) tT ∧
      ∀ (l p da t : Addr) (fs : List Ent) (z way : Str) (yp yi yg : V) (dp di dg : PyData) (n size : Int) (u7 : Option V) (H2 : Hp) (Q : VK) (r : Option Str), DE H2 da fs → AOk (accE fs) → Atm (.str z) (.str z) → Atm yp dp → Atm yi di → Atm yg dg → Atm (.int n) (.int n) → (way = "price" ∨ way = "part" ∨ way = "less") →
        Why (getA (accE fs) z) z dp di dg n way r →
        (∀ s, r = some s → PyData.strOk s = true) → (∀ s, r = some s → H2 t = some (.tup [.str "raised", .str s]) ∧ ∀ H' u, Same H2 H' → H' u = some (.tup [.bl true, .non]) → Q (.ref u) H') →
        (r = none → ∀ m (j : Nat) rr (i : Nat) c g cs, getA (accE fs) z = some m → dp = .int (j : Int) → m.2[j]? = some rr → di = .int (i : Int) → rr[i]? = some c → (way = "part" → dg = .int g) → cs = ordR way rr i c g n →
          (rowedP m j cs = none → H2 t = some (.tup [.str "raised", .str "machine"]) ∧ ∀ H' u, Same H2 H' → H' u = some (.tup [.bl true, .non]) → Q (.ref u) H') ∧
          ∀ m', rowedP m j cs = some m' → H2 t = some (.tup [.str "told", .non]) ∧ ∀ H' u dl b, H2 dl = none → Same H2 H' → H' u = some (.tup [.bl true, .ref dl]) → DE H' dl (putA fs z (.ref b, m')) → Q (.ref u) H') →
        tT { nx := fun _ H' => Q .non H', rt := Q } [some (.ref l), some (.ref p), some (.ref da), some (.str z), some (.int size), some yp, some yi, u7, some yg, some (.int n), some (.str way), some (.ref t), none, none, none] H2 := by
  obtain ⟨tD, hPD, hDone⟩ := changed_done (P := P) (w := w) (base := base) (c := c) F f A outer s H E hr
  refine ⟨_, pss_cons (ps_set (i := 12) scLChanged.nd rfl (Or.inl rfl) (pe_cal G2 (hr.mono (by decide)) (by rfl) pass0 (pa_cons (pv 0) (pa_cons (pv 2) (pa_cons (pv 3) (pa_cons (pv 5) (pa_cons (pv 6) (pa_cons (pv 8) (pa_cons (pv 9) (pa_cons (pv 10) pa_nil))))))))))
    (pss_cons (ps_if (pt_cmpR op_notN (pv 12) pe_non (nomark _)) (pss_one (ps_ret (pe_tup (pa_cons (pe_cmpR (op_eqD hr.units) (pv 11) (pe_tup (pa_cons pe_str (pa_cons (pv 12) pa_nil))) (nomark _)) (pa_cons pe_non pa_nil))))) pss_nil)
    (pss_cons (ps_set (i := 13) scLChanged.nd rfl (Or.inl rfl) (pe_dget (hu_of hr) (pv 2) (pv 3) (fun _ _ => rfl)))
    (pss_cons (ps_if (pt_cmpR op_eq (pv 10) pe_str (nomark _)) (pss_one (ps_set (i := 14) scLChanged.nd rfl (Or.inl rfl) (pe_cal G3 (hr.mono (by decide)) (by rfl) pass0 (pa_cons (pv 13) (pa_cons (pv 5) (pa_cons (pv 6) (pa_cons (pv 8) (pa_cons (pv 9) pa_nil))))))))
      (pss_one (ps_set (i := 14) scLChanged.nd rfl (Or.inl rfl) (pe_ifExp (pt_cmpR op_eq (pv 10) pe_str (nomark _)) (pe_cal G4 (hr.mono (by decide)) (by rfl) pass0 (pa_cons (pv 13) (pa_cons (pv 5) (pa_cons (pv 6) (pa_cons (pv 9) pa_nil))))) (pe_cal G5 (hr.mono (by decide)) (by rfl) pass0 (pa_cons (pv 13) (pa_cons (pv 5) (pa_cons (pv 6) pa_nil))))))))
    hPD))), ?_⟩
  intro l p da t fs z way yp yi yg dp di dg n size u7 H2 Q r hE hA az ap ai ag an0 hw hwy hok hR1 hR2
  refine ⟨_, rfl, _, rfl, _, rfl, _, rfl, _, rfl, _, rfl, _, rfl, _, rfl, _, da, z, yp, dp, yi, di, yg, dg, n, way, fs, r, rfl, hE, hA.eg, az, ap, ai, ag, an0, hwy, ?_⟩
  cases r with
  | some rs =>
    obtain ⟨hT, hq⟩ := hR1 rs rfl
    refine ⟨_, rfl, rfl, _, rfl, ?_⟩
    refine iteT ⟨_, rfl, _, rfl, two_le2, fun u hu => ?_⟩
    have su : Same H2 (upd H2 u (.tup [.str "raised", .str rs])) := same_laid hu
    refine ⟨_, _, dp_two (su _ _ hT), dp_two upd_same, shaped_two (by decide +kernel) (hok rs rfl), shaped_two (by decide +kernel) (hok rs rfl), two_le2, fun v hv => ?_⟩
    rw [eqv_two, beq_self_eq_true, beq_self_eq_true]
    exact hq _ v (su.trans (same_laid hv)) upd_same
  | none =>
    refine ⟨_, rfl, rfl, _, rfl, iteF ?_⟩
    have hgz : DGet H2 da (.str z) ((getA fs z).map fun p => p.1) := by
      have := DGet.k (k := Sum.inr z) hE.at_
      rw [kvE_get] at this
      exact this
    cases hwy with
    | @fine m j rr i c h hp hr1 h1 hi hc h2 hg hn =>
      cases hgv : getA fs z with
      | none => rw [accE_get, hgv] at h; cases h
      | some vm =>
      obtain ⟨v, m0⟩ := vm
      have hme := accE_some hgv
      rw [hme] at h
      cases h
      rw [hgv] at hgz
      have hmem := getA_mem hgv
      have hokm : okM m = true := hA.ok (z, m) (getA_acc hme)
      have hm : Tp H2 v (dM m) := (hE.ok _ hmem).2
      have hrow := okRow_of ((okM_of hokm).2.2.2.2 rr (List.mem_of_getElem? hr1))
      have hml : m.2.length ≤ 1000 := (okM_sml hokm).rows
      obtain rfl : yp = .int (j : Int) := by
        subst hp
        exact dv_int (ap.dv H2)
      obtain rfl : yi = .int (i : Int) := by
        subst hi
        exact dv_int (ai.dv H2)
      have fin : ∀ (g : Int) (H' : Hp) (y : V), (way = "part" → dg = .int g) → Same H2 H' → OM H' y (rowedP m j (ordR way rr i c g n)) → tD { nx := fun _ H' => Q .non H', rt := Q } [some (.ref l), some (.ref p), some (.ref da), some (.str z), some (.int size), some (.int (j : Int)), some (.int (i : Int)), u7, some yg, some (.int n), some (.str way), some (.ref t), some .non, some v, some y] H' := fun g H' y hg2 sm hO => by
        obtain ⟨a1, a2⟩ := hR2 rfl m j rr i c g _ hme hp hr1 hi hc hg2 rfl
        refine hDone l p da t fs z way (.int (j : Int)) (.int (i : Int)) yg n size u7 H' Q v y _ (hE.same sm) hA hO (fun e => ?_) (fun m' e => ?_)
        · obtain ⟨b1, b2⟩ := a1 e
          exact ⟨sm _ _ b1, fun H'' u s'' => b2 H'' u (sm.trans s'')⟩
        · obtain ⟨b1, b2⟩ := a2 m' e
          exact ⟨sm _ _ b1, fun H'' u dl b hn s'' => b2 H'' u dl b (sm.free hn) (sm.trans s'')⟩
      refine ⟨_, rfl, _, rfl, da, _, rfl, hgz, ?_⟩
      rcases hw with rfl | rfl | rfl
      · refine ⟨_, rfl, rfl, _, rfl, iteF ⟨_, rfl, rfl, _, rfl, iteT ⟨_, rfl, _, rfl, _, rfl, _, rfl, v, m, j, i, rr, c, n, rfl, hm, hml, hr1, hrow.2.1, hc, fun H' y sm hO => ?_⟩⟩⟩
        exact fin 0 H' y (fun e => absurd e (by decide +kernel)) sm hO
      · obtain ⟨g, rfl, _, _⟩ := wi_int (hg rfl)
        obtain rfl : yg = .int g := dv_int (ag.dv H2)
        obtain ⟨nn, en, hn0, hn1⟩ := wi_int (hn (by decide +kernel))
        cases en
        have hprt := okM_prs hokm rr (List.mem_of_getElem? hr1) c (List.mem_of_getElem? hc)
        have hne : c.2 ≠ [] := fun z => by
          have := (okC_of (hrow.2.2.1 c (List.mem_of_getElem? hc))).2
          rw [z] at this
          cases this
        refine ⟨_, rfl, rfl, _, rfl, iteT ⟨_, rfl, _, rfl, _, rfl, _, rfl, _, rfl, v, m, j, i, rr, c, g, n, rfl, hm, hml, hr1, hrow.2.1, hc, hprt, hne, hn0, hn1, fun H' y sm hO => ?_⟩⟩
        exact fin g H' y (fun _ => rfl) sm hO
      · refine ⟨_, rfl, rfl, _, rfl, iteF ⟨_, rfl, rfl, _, rfl, iteF ⟨_, rfl, _, rfl, _, rfl, v, m, j, i, rr, rfl, hm, hml, hr1, hrow.2.1, fun H' y sm hO => ?_⟩⟩⟩
        exact fin 0 H' y (fun e => absurd e (by decide +kernel)) sm hO
end
end T83

set_option Elab.async false
set_option linter.all false
set_option maxRecDepth 100000
set_option maxHeartbeats 2000000
/-! the row that an order makes -/
namespace T83
open PySem PySem.Spec PyProof.Rows L2 RZ
theorem left_keys (D : Prt) : (leftD D).map (·.1) = (keysD D).filter fun k => decide (0 < lookD D k) := by
  unfold leftD
  rw [List.map_map]
  exact (List.map_congr_left fun k _ => rfl).trans (List.map_id _)
theorem left_nd {D : Prt} (nd : (D.map (·.1)).Nodup) : ((leftD D).map (·.1)).Nodup := by
  rw [left_keys]
  exact ((keysD_perm D).nodup_iff.mpr nd).filter _
theorem all_left {D : Prt} (nd : (D.map (·.1)).Nodup) : allD (leftD D) = leftD D := by
  have hk : (leftD D).map (·.1) = keysD (leftD D) := keysD_of (.refl _) (by rw [left_keys]; exact (keysD_sorted D).filter _)
  have hnd := left_nd nd
  unfold allD
  rw [← hk, List.map_map]
  refine (List.map_congr_left fun q hq => ?_).trans (List.map_id _)
  show (q.1, lookD (leftD D) q.1) = q
  rw [lookD_of hnd hq]
theorem withP_ok0 {size : Int} {c : Chc} {g n : Int} (h : okC size c = true) (hs : size ≤ 16) (h1 : 0 ≤ g ∧ g ≤ size - 1) (h2 : 0 ≤ n ∧ n ≤ 10 ^ 6) : okC0 size (withP c g n) := by
  obtain ⟨a1, a2⟩ := okC_of h
  obtain ⟨b1, b2, b3, b4⟩ := okPr_of a2
  have nd : (c.2.map (·.1)).Nodup := (okPr_prs a2 hs).nd
  have ndD : ((putA c.2 g n).map (·.1)).Nodup := putA_nodup nd
  have hD : ∀ q ∈ putA c.2 g n, (0 ≤ q.1 ∧ q.1 ≤ size - 1) ∧ q.2 ≤ 10 ^ 6 := fun q hq => by
    rcases mem_put hq with z | z
    · exact ⟨(b2 q z).1, (b2 q z).2.2⟩
    · rw [z]
      exact ⟨h1, h2.2⟩
  by_cases hl : leftD (putA c.2 g n) = []
  · refine .inr ⟨a1, ?_⟩
    show partsD _ = []
    unfold partsD overG
    rw [hl]
    rfl
  · left
    unfold okC
    rw [Bool.and_eq_true]
    refine ⟨?_, ?_⟩
    · show (decide ((0 : Int) ≤ c.1) && decide (c.1 ≤ 10 ^ 6)) = true
      rw [Bool.and_eq_true, decide_eq_true_eq, decide_eq_true_eq]
      exact a1
    · show okPr size (partsD _) = true
      have dp : DPs size (leftD (putA c.2 g n)) := ⟨left_nd ndD, fun q hq => by
        obtain ⟨c1, c2⟩ := left_pos hq
        have := hD q c2
        exact ⟨this.1, by omega, this.2⟩⟩
      have := over_ok dp hl
      rw [all_left ndD] at this
      exact this
/-- all choices of the row are such, or without parts -/
theorem ord_ok0 {size : Int} {way : Str} {r : List Chc} {i : Nat} {c : Chc} {g n : Int} (hs : size ≤ 16) (hr : ∀ c ∈ r, okC size c = true) (hc : r[i]? = some c) (hg : way = "part" → 0 ≤ g ∧ g ≤ size - 1) (hn : way ≠ "less" → 0 ≤ n ∧ n ≤ 10 ^ 6) : ∀ d ∈ ordR way r i c g n, okC0 size d := by
  intro d hd
  have hcr := hr c (List.mem_of_getElem? hc)
  unfold ordR at hd
  split at hd
  · rename_i hw
    rcases List.mem_or_eq_of_mem_set hd with z | z
    · exact .inl (hr d z)
    · rw [z]
      left
      obtain ⟨a1, a2⟩ := okC_of hcr
      have := hn (by rw [hw]; decide +kernel)
      unfold okC
      rw [Bool.and_eq_true]
      refine ⟨?_, a2⟩
      show (decide ((0 : Int) ≤ n) && decide (n ≤ 10 ^ 6)) = true
      rw [Bool.and_eq_true, decide_eq_true_eq, decide_eq_true_eq]
      exact this
  · split at hd
    · rename_i hw
      rcases List.mem_or_eq_of_mem_set hd with z | z
      · exact .inl (hr d z)
      · rw [z]
        exact withP_ok0 hcr hs (hg hw) (hn (by rw [hw]; decide +kernel))
    · exact .inl (hr d (List.mem_of_mem_eraseIdx hd))
theorem ord_len (way : Str) (r : List Chc) (i : Nat) (c : Chc) (g n : Int) : (ordR way r i c g n).length ≤ r.length := by
  unfold ordR
  split
  · rw [List.length_set]
    exact Nat.le_refl _
  · split
    · rw [List.length_set]
      exact Nat.le_refl _
    · exact List.length_eraseIdx_le _ _
theorem rowed_is {m : Mach} {j : Nat} {cs : List Chc} {m' : Mach} (h : rowedP m j cs = some m') : m' = setR m j cs := by
  unfold rowedP at h
  split at h
  · cases h
  · exact (Option.some.inj h).symm
/-- what an order that is fine leads to -/
theorem ord_fine {m : Mach} {j : Nat} {way : Str} {r : List Chc} {i : Nat} {c : Chc} {g n : Int} (hm : okM m = true) (hr : m.2[j]? = some r) (hc : r[i]? = some c) (hg : way = "part" → wi 0 ((m.1.length : Int) - 1) (.int g) = true) (hn : way ≠ "less" → wi 0 (10 ^ 6) (.int n) = true) :
    okM (setR m j (ordR way r i c g n)) = (rowedP m j (ordR way r i c g n)).isSome := by
  have hrow := okRow_of ((okM_of hm).2.2.2.2 r (List.mem_of_getElem? hr))
  have hsz := (okM_of hm).2.1
  refine setR_ok hm (List.getElem?_eq_some_iff.mp hr).1 (ord_ok0 (by omega) hrow.2.2.1 hc (fun z => ?_) (fun z => ?_)) (Nat.le_trans (ord_len _ _ _ _ _ _) hrow.2.1)
  · obtain ⟨_, e, a, b⟩ := wi_int (hg z)
    cases e
    exact ⟨a, b⟩
  · obtain ⟨_, e, a, b⟩ := wi_int (hn z)
    cases e
    exact ⟨a, b⟩
end T83

set_option Elab.async false
set_option linter.all false
set_option maxRecDepth 100000
set_option maxHeartbeats 2000000
namespace T83
open PySem PySem.Spec PyProof.Rows L2 RZ LamX
theorem Bowl.kt {S : List Addr} {H H' : Hp} {l : Addr} (h : Bowl H l) (k : Kt S H H') (n : l ∉ S) : Bowl H' l := by
  obtain ⟨a, b, c, h⟩ := h
  exact ⟨a, b, c, k _ _ h n (fun ps z => by cases z)⟩
section
variable {P : Program} {w : World} {K : PySem.W.Frag} {mg : Str → Option Value} {base : Heap}
theorem changed_tail {c Pt : Addr} {T : List (Addr × Str)} (F : Fx K mg) (Ts : Fs K mg) (D : AtC K mg base "_law_changed" sLChanged c Pt) (hmT : (Pt, ("_law_changed.<locals>.<lambda>" : Str)) ∈ T) (hu : ∀ p ∈ T, p.1 = Pt → p.2 = ("_law_changed.<locals>.<lambda>" : Str)) (HO : HeardOk P w K mg base)
    (G2 : Cal P w K mg base CX0 2 "_law_wrong" ["bowl", "account", "name", "place", "index", "goal", "number", "way"] spLWrong)
    (G3 : Cal P w K mg base CX0 3 "_law_parted" ["machine", "place", "index", "goal", "number"] spLParted) (G4 : Cal P w K mg base CX0 3 "_law_priced" ["machine", "place", "index", "number"] spLPriced) (G5 : Cal P w K mg base CX0 3 "_law_lessened" ["machine", "place", "index"] spLLess)
    (M1 : CalM P w K mg base (L2.CX P w) 8 "price" ["self", "name", "place", "index", "number"] (spPrice K)) (M2 : CalM P w K mg base (L2.CX P w) 8 "part" ["self", "name", "place", "index", "goal", "number"] (spPart K)) (M3 : CalM P w K mg base (L2.CX P w) 8 "less" ["self", "name", "place", "index"] (spLess K))
    (f : Addr) (A : Around) (outer : List Env) (s : Shared) (H : Hp) (E : XK) (hr : Room 11 (A.deeper (envOfC "_law_changed" (defScope sLChanged) s.heap.objs.size f (.ref c)))) :
    ∃ tT : TS, PSs (xLChanged P w K mg base f c A outer s H E) ((defBody sLChanged).drop 6) tT ∧
      ∀ (l p da dx lp lf an cur : Addr) (past fut : List Addr) (es fs : List Ent) (z way : Str) (yp yi yg : V) (dp di dg : PyData) (n size : Int) (u7 : Option V) (H1 : Hp) (Q : VK), Bowl H1 l → Tabs T H1 → Shf K H1 p dx lp lf an past cur fut → DE H1 cur es → DE H1 da fs → accE es = accE fs → AOk (accE fs) → past.length ≤ 1000 → l ≠ lp →
        Atm (.str z) (.str z) → Atm yp dp → Atm yi di → Atm yg dg → Atm (.int n) (.int n) → PyData.strOk (PyData.str z).shown = true → PyData.strOk dp.shown = true → PyData.strOk di.shown = true → PyData.strOk dg.shown = true → PyData.strOk (PyData.int n).shown = true → (way = "price" ∨ way = "part" ∨ way = "less") → Moved K T l p dx lp lf an past cur fut H1 Q →
        tT { nx := fun _ H' => Q .non H', rt := Q } [some (.ref l), some (.ref p), some (.ref da), some (.str z), some (.int size), some yp, some yi, u7, some yg, some (.int n), some (.str way), none, none, none, none] H1 := by
  obtain ⟨gh, fdh, hm, hk, hb, GH⟩ := HO.ex
  have r8 : Room (8 + 3) (A.deeper (envOfC "_law_changed" (defScope sLChanged) s.heap.objs.size f (.ref c))) := hr
  obtain ⟨tR, hPR, hRest⟩ := changed_rest (P := P) (w := w) (base := base) (c := c) F G2 G3 G4 G5 f A outer s H E hr
  refine ⟨_, pss_cons (ps_if (pt_cmpR op_eq (pv 10) pe_str (nomark _)) (pss_one (ps_set (i := 11) scLChanged.nd rfl (Or.inl rfl) (pe_lamto (T := T) (j := 8) (t := fun E => tMeth (aS K) "price" (spPrice K) [] E (tVar 1) (tCons (tVar 3) (tCons (tVar 5) (tCons (tVar 6) (tCons (tVar 9) tNil))))) GH rfl hm hk hb D.tb rfl hmT hu r8 (lamS_by (show lamSB (defScope sLChanged) _ = true by decide +kernel)) (fun A outer s H E f c' hr2 => pe_calm Ts.cl M1 hr2 passL (pv 1) (pa_cons (pv 3) (pa_cons (pv 5) (pa_cons (pv 6) (pa_cons (pv 9) pa_nil))))))))
      (pss_one (ps_if (pt_cmpR op_eq (pv 10) pe_str (nomark _)) (pss_one (ps_set (i := 11) scLChanged.nd rfl (Or.inl rfl) (pe_lamto (T := T) (j := 8) (t := fun E => tMeth (aS K) "part" (spPart K) [] E (tVar 1) (tCons (tVar 3) (tCons (tVar 5) (tCons (tVar 6) (tCons (tVar 8) (tCons (tVar 9) tNil)))))) GH rfl hm hk hb D.tb rfl hmT hu r8 (lamS_by (show lamSB (defScope sLChanged) _ = true by decide +kernel)) (fun A outer s H E f c' hr2 => pe_calm Ts.cl M2 hr2 passL (pv 1) (pa_cons (pv 3) (pa_cons (pv 5) (pa_cons (pv 6) (pa_cons (pv 8) (pa_cons (pv 9) pa_nil)))))))))
        (pss_one (ps_set (i := 11) scLChanged.nd rfl (Or.inl rfl) (pe_lamto (T := T) (j := 8) (t := fun E => tMeth (aS K) "less" (spLess K) [] E (tVar 1) (tCons (tVar 3) (tCons (tVar 5) (tCons (tVar 6) tNil)))) GH rfl hm hk hb D.tb rfl hmT hu r8 (lamS_by (show lamSB (defScope sLChanged) _ = true by decide +kernel)) (fun A outer s H E f c' hr2 => pe_calm Ts.cl M3 hr2 passL (pv 1) (pa_cons (pv 3) (pa_cons (pv 5) (pa_cons (pv 6) pa_nil))))))))))
    hPR, ?_⟩
  intro l p da dx lp lf an cur past fut es fs z way yp yi yg dp di dg n size u7 H1 Q hB hT sh de df eac hA hpl hne az ap ai ag an0 kz kp0 ki kg kn hw hmov
  have hAe : AOk (accE es) := by rw [eac]; exact hA
  have hel : es.length ≤ 1000 := by
    have := hAe.len
    rw [accE_len] at this
    omega
  obtain ⟨r, hwy⟩ := why_all (getA (accE es) z) z dp di dg n way fun m h => (okM_of (hAe.ok (z, m) (getA_acc h))).2.2.2.1
  have gG : ∀ H' : Hp, Kt [] H1 H' → DE H' da fs := fun H' k => df.kt k (Mu.nil _)
  have hpp : p ≠ l := by
    obtain ⟨_, _, _, hb1⟩ := hB
    exact ne_of sh.at_ hb1 (by intro z; cases z)
  -- where nothing has been done
  have quiet : ∀ H2 H', ExtN H1 H2 → Tabs T H2 → Same H2 H' → ∀ u, H' u = some (.tup [.bl true, .non]) → Q (.ref u) H' := fun H2 H' eN T2 sm u hu2 => by
    have k : Kt [] H1 H' := (Kt.of eN).trans (Kp.of sm).kt
    exact hmov H' u .non (k.wide fun c h => by cases h) (hB.kt k (by simp)) ((Kp.of sm : Kp [] H2 H').tabs (Mu.nil _) T2) hu2 (.inl ⟨rfl, sh.kt k (by simp) (by simp) (by simp) (by simp)⟩)
  have raises : ∀ (H2 : Hp), ExtN H1 H2 → Tabs T H2 → ∀ s0, r = some s0 ∨ (r = none ∧ s0 = "machine") → PyData.strOk s0 = true →
      (r = none → ∀ m (j : Nat) rr (i : Nat) c g, getA (accE fs) z = some m → dp = .int (j : Int) → m.2[j]? = some rr → di = .int (i : Int) → rr[i]? = some c → (way = "part" → dg = .int g) → rowedP m j (ordR way rr i c g n) = none) →
      RaiseQ (fun v H' => tR { nx := fun _ H' => Q .non H', rt := Q } [some (.ref l), some (.ref p), some (.ref da), some (.str z), some (.int size), some yp, some yi, u7, some yg, some (.int n), some (.str way), some v, none, none, none] H') s0 H2 := fun H2 eN T2 s0 hs0 hok hnone H3 t s3 ht => by
    have s4 : Same H2 (upd H3 t (.tup [.str "raised", .str s0])) := s3.trans (same_laid ht)
    refine hRest l p da t fs z way yp yi yg dp di dg n size u7 _ Q r (gG _ ((Kt.of eN).trans (Kp.of s4).kt)) hA az ap ai ag an0 hw (by rw [← eac]; exact hwy) ?_ ?_ ?_
    · intro s1 e
      rcases hs0 with e2 | ⟨e2, _⟩
      · rw [e] at e2
        cases e2
        exact hok
      · rw [e] at e2
        cases e2
    · intro s1 e
      rcases hs0 with e2 | ⟨e2, _⟩
      · rw [e] at e2
        cases e2
        exact ⟨upd_same, fun H' u s5 => quiet H2 H' eN T2 (s4.trans s5) u⟩
      · rw [e] at e2
        cases e2
    · intro e m j rr i c g cs e1 e2 e3 e4 e5 e6 e7
      subst e7
      have e8 := hnone e m j rr i c g e1 e2 e3 e4 e5 e6
      rcases hs0 with e9 | ⟨_, e9⟩
      · rw [e] at e9
        cases e9
      · subst e9
        exact ⟨fun _ => ⟨upd_same, fun H' u s5 => quiet H2 H' eN T2 (s4.trans s5) u⟩, fun m' e10 => by rw [e8] at e10; cases e10⟩
  have fines : ∀ (H2 : Hp), ExtN H1 H2 → Tabs T H2 → r = none → ∀ v m (j : Nat) rr (i : Nat) c g, getA es z = some (v, m) → dp = .int (j : Int) → m.2[j]? = some rr → di = .int (i : Int) → rr[i]? = some c → (way = "part" → dg = .int g) →
      Fine K H2 p dx lp an past cur es z (setR m j (ordR way rr i c g n)) (fun v H' => tR { nx := fun _ H' => Q .non H', rt := Q } [some (.ref l), some (.ref p), some (.ref da), some (.str z), some (.int size), some yp, some yi, u7, some yg, some (.int n), some (.str way), some v, none, none, none] H') := fun H2 eN T2 er v m j rr i c g ev ep err ei ec eg => by
    have ea := accE_some ev
    have eaf : getA (accE fs) z = some m := by rw [← eac]; exact ea
    have hokm : okM m = true := hAe.ok (z, m) (getA_acc ea)
    have hwy' : Why (getA (accE es) z) z dp di dg n way none := by rw [← er]; exact hwy
    have hcond : (way = "part" → wi 0 ((m.1.length : Int) - 1) dg = true) ∧ (way ≠ "less" → wi 0 (10 ^ 6) (.int n) = true) := by
      cases hwy' with
      | fine h _ _ _ _ _ _ hg hn =>
        rw [ea] at h
        cases h
        exact ⟨hg, hn⟩
    have hof : okM (setR m j (ordR way rr i c g n)) = (rowedP m j (ordR way rr i c g n)).isSome := ord_fine hokm err ec (fun z => by rw [← eg z]; exact hcond.1 z) hcond.2
    have func : ∀ {m' : Mach} {j' : Nat} {rr' : List Chc} {i' : Nat} {c' : Chc} {g' : Int}, getA (accE fs) z = some m' → dp = .int (j' : Int) → m'.2[j']? = some rr' → di = .int (i' : Int) → rr'[i']? = some c' → (way = "part" → dg = .int g') → rowedP m' j' (ordR way rr' i' c' g' n) = rowedP m j (ordR way rr i c g n) := fun {m' j' rr' i' c' g'} e1 e2 e3 e4 e5 e6 => by
      have inj : ∀ {a b : Nat}, PyData.int (a : Int) = .int (b : Int) → a = b := fun h => by injection h with h; omega
      rw [eaf] at e1
      cases e1
      rw [ep] at e2
      rw [← inj e2, err] at e3
      cases e3
      rw [ei] at e4
      rw [← inj e4, ec] at e5
      cases e5
      rw [← inj e2, ← inj e4]
      by_cases hpw : way = "part"
      · have h1 := eg hpw
        rw [e6 hpw] at h1
        cases h1
        rfl
      · unfold ordR
        rw [if_neg hpw, if_neg hpw]
    refine ⟨fun h => ?_, fun h v' hv' H3 lf' cu an' t h1 h2 kp hcu hsh ht => ?_⟩
    · refine raises H2 eN T2 "machine" (.inr ⟨er, rfl⟩) (by decide +kernel) fun _ m' j' rr' i' c' g' e1 e2 e3 e4 e5 e6 => ?_
      rw [func e1 e2 e3 e4 e5 e6]
      rw [hof] at h
      cases e : rowedP m j (ordR way rr i c g n) with
      | none => rfl
      | some _ => rw [e] at h; cases h
    · have m2 : Mu H1 [p, lp] := Mu.cons sh.at_ True.intro (Mu.cons sh.lp_ True.intro (Mu.nil _))
      have m22 : Mu H2 [p, lp] := Mu.cons (eN _ _ sh.at_ (fun _ z => by cases z)) True.intro (Mu.cons (eN _ _ sh.lp_ (fun _ z => by cases z)) True.intro (Mu.nil _))
      have s4 : Same H3 (upd H3 t (.tup [.str "told", .non])) := same_laid ht
      have k3 : Kt [p, lp] H1 (upd H3 t (.tup [.str "told", .non])) := ((Kt.of eN : Kt [p, lp] H1 H2).trans kp.kt).trans (Kp.of s4).kt
      refine hRest l p da t fs z way yp yi yg dp di dg n size u7 _ Q r (df.kt k3 m2) hA az ap ai ag an0 hw (by rw [← eac]; exact hwy) (fun s1 e => by rw [er] at e; cases e) (fun s1 e => by rw [er] at e; cases e) ?_
      intro _ m' j' rr' i' c' g' cs e1 e2 e3 e4 e5 e6 e7
      subst e7
      have ef := func e1 e2 e3 e4 e5 e6
      rw [hof] at h
      refine ⟨fun e => (by rw [ef] at e; rw [e] at h; cases h), fun mm e => ⟨upd_same, fun H4 u dl b hdn s5 hu2 hdl => ?_⟩⟩
      rw [ef] at e
      have emm := rowed_is e
      have s6 := s4.trans s5
      have k4 : Kt [p, lp] H1 H4 := k3.trans (Kp.of s5).kt
      have hokmm : okM mm = true := by
        rw [emm, hof]
        exact h
      refine hmov H4 u (.ref dl) (k4.wide fun c hc => .inl (by simp at hc ⊢; rcases hc with q | q <;> simp [q])) (hB.kt k4 (by simp; exact ⟨Ne.symm hpp, hne⟩)) ?_ hu2 (.inr ⟨dl, lf', an', cu, putA es z (v', mm), putA fs z (.ref b, mm), rfl, Ne.symm (ne_of_none (s4 _ _ hcu.at_) hdn), newN_ext eN h1, hdl, ?_, ?_, ?_, hsh.same s6⟩)
      · exact (Kp.of s6 : Kp [] H3 H4).tabs (Mu.nil _) (kp.tabs m22 T2)
      · rw [emm]
        exact hcu.same s6
      · rw [accE_put, accE_put, eac]
      · rw [accE_put]
        exact hA.put (hA.nm (z, m) (getA_acc eaf)) hokmm
  have hrs : ∀ (H2 : Hp), ExtN H1 H2 → Tabs T H2 → ∀ s0, r = some s0 → RaiseQ (fun v H' => tR { nx := fun _ H' => Q .non H', rt := Q } [some (.ref l), some (.ref p), some (.ref da), some (.str z), some (.int size), some yp, some yi, u7, some yg, some (.int n), some (.str way), some v, none, none, none] H') s0 H2 := fun H2 eN T2 s0 e => by
    refine raises H2 eN T2 s0 (.inl e) ?_ fun e2 => by rw [e] at e2; cases e2
    subst e
    cases hwy with
    | unk => exact strOk_app (by decide +kernel) kz
    | place => exact strOk_app (by decide +kernel) kp0
    | index => exact strOk_app (by decide +kernel) ki
    | goal => exact strOk_app (by decide +kernel) kg
    | number => exact strOk_app (by decide +kernel) kn
  have sh2 : ∀ H2, ExtN H1 H2 → Shf K H2 p dx lp lf an past cur fut := fun H2 eN => sh.kt (Kt.of eN : Kt [] H1 H2) (by simp) (by simp) (by simp) (by simp)
  have de2 : ∀ H2, ExtN H1 H2 → DE H2 cur es := fun H2 eN => de.kt (Kt.of eN : Kt [] H1 H2) (Mu.nil _)
  rcases hw with rfl | rfl | rfl
  · refine ⟨_, rfl, rfl, _, rfl, iteT ⟨hT, fun H2 eN T2 => ?_⟩⟩
    refine ⟨_, rfl, p, dx, _, rfl, (sh2 H2 eN).at_, rfl, _, rfl, _, rfl, _, rfl, _, rfl, ?_⟩
    exact hear_price (sh2 H2 eN) (de2 H2 eN) hpl hel hAe.eg az ap ai an0 hwy (hrs H2 eN T2) fun er v m j rr i c ev ep err ei ec => fines H2 eN T2 er v m j rr i c 0 ev ep err ei ec fun e => absurd e (by decide +kernel)
  · refine ⟨_, rfl, rfl, _, rfl, iteF ⟨_, rfl, rfl, _, rfl, iteT ⟨hT, fun H2 eN T2 => ?_⟩⟩⟩
    refine ⟨_, rfl, p, dx, _, rfl, (sh2 H2 eN).at_, rfl, _, rfl, _, rfl, _, rfl, _, rfl, _, rfl, ?_⟩
    exact hear_part (sh2 H2 eN) (de2 H2 eN) hpl hel hAe.eg hAe.eps az ap ai ag an0 hwy (hrs H2 eN T2) fun er v m j rr i c g ev ep err ei ec eg => fines H2 eN T2 er v m j rr i c g ev ep err ei ec fun _ => eg
  · refine ⟨_, rfl, rfl, _, rfl, iteF ⟨_, rfl, rfl, _, rfl, iteF ⟨hT, fun H2 eN T2 => ?_⟩⟩⟩
    refine ⟨_, rfl, p, dx, _, rfl, (sh2 H2 eN).at_, rfl, _, rfl, _, rfl, _, rfl, ?_⟩
    exact hear_less (sh2 H2 eN) (de2 H2 eN) hpl hel hAe.eg az ap ai hwy (hrs H2 eN T2) fun er v m j rr i c ev ep err ei ec => fines H2 eN T2 er v m j rr i c 0 ev ep err ei ec fun e => absurd e (by decide +kernel)
end
end T83

set_option Elab.async false
set_option linter.all false
set_option maxRecDepth 100000
set_option maxHeartbeats 2000000
namespace T83
open PySem PySem.Spec PyProof.Rows L2 RZ LamX
section
variable {P : Program} {w : World} {K : PySem.W.Frag} {mg : Str → Option Value} {base : Heap}
theorem Moved.kp {T : List (Addr × Str)} {l p dx lp lf an cur : Addr} {past fut : List Addr} {H H1 : Hp} {Q : VK} (h : Moved K T l p dx lp lf an past cur fut H Q) (k : Kp [l] H H1) (hB : Bowl H1 l) : Moved K T l p dx lp lf an past cur fut H1 Q := fun H' t y kt hB' T' ht hy => by
  refine h H' t y ((k.kt.wide fun c hc => .inl (by simp at hc ⊢; exact .inl hc)).trans kt) hB' T' ht ?_
  rcases hy with hy | ⟨dl, lf', an', cu, es', fs', e, hdc, hn, rest⟩
  · exact .inl hy
  · refine .inr ⟨dl, lf', an', cu, es', fs', e, hdc, fun o ho => ?_, rest⟩
    by_cases z : lf' = l
    · obtain ⟨a, b, c, hb⟩ := hB
      rw [z] at hn
      obtain ⟨ps, q⟩ := hn _ hb
      cases q
    · exact hn o (k lf' o ho (by simpa using z))
/-- an atom whose text is of signs -/
def AtK (v : V) : Prop := ∃ d, Atm v d ∧ PyData.strOk d.shown = true
theorem atk_int {i : Int} (h1 : -1 ≤ i) (h2 : i ≤ 20) : AtK (.int i) := by
  refine ⟨.int i, atm_int h1 h2, ?_⟩
  have h : ∀ n : Fin 22, PyData.strOk (PyData.int ((n.val : Int) - 1)).shown = true := by decide +kernel
  have e : i = (((i + 1).toNat : Int) - 1) := by omega
  rw [e]
  exact h ⟨(i + 1).toNat, by omega⟩
theorem atk_big : AtK (.int (10 ^ 6)) := ⟨_, atm_big, by decide +kernel⟩
theorem atk_big1 : AtK (.int (10 ^ 6 + 1)) := ⟨_, atm_big1, by decide +kernel⟩
theorem atk_bl (b : Bool) : AtK (.bl b) := ⟨_, .bl b, by cases b <;> decide +kernel⟩
theorem atk_non : AtK .non := ⟨_, .non, by decide +kernel⟩
theorem atk_str {z : Str} (h1 : (PyData.str z).shown.length ≤ 1000) (h2 : PyData.strOk (PyData.str z).shown = true) : AtK (.str z) := ⟨_, .str z h1, h2⟩
theorem atk_nm {z : Str} (h : z ∈ nmL ++ [("zz" : Str)]) : AtK (.str z) := by
  have : ∀ z ∈ nmL ++ [("zz" : Str)], (PyData.str z).shown.length ≤ 1000 ∧ PyData.strOk (PyData.str z).shown = true := by decide +kernel
  exact atk_str (this z h).1 (this z h).2
theorem changed_draws {c Pt : Addr} {T : List (Addr × Str)} (F : Fx K mg) (Ts : Fs K mg) (D : AtC K mg base "_law_changed" sLChanged c Pt) (hmT : (Pt, ("_law_changed.<locals>.<lambda>" : Str)) ∈ T) (hu : ∀ p ∈ T, p.1 = Pt → p.2 = ("_law_changed.<locals>.<lambda>" : Str)) (HO : HeardOk P w K mg base)
    (G1 : Cal P w K mg base CX0 2 "_law_one_of" ["bowl", "items"] spOneOf) (G2 : Cal P w K mg base CX0 2 "_law_wrong" ["bowl", "account", "name", "place", "index", "goal", "number", "way"] spLWrong)
    (G3 : Cal P w K mg base CX0 3 "_law_parted" ["machine", "place", "index", "goal", "number"] spLParted) (G4 : Cal P w K mg base CX0 3 "_law_priced" ["machine", "place", "index", "number"] spLPriced) (G5 : Cal P w K mg base CX0 3 "_law_lessened" ["machine", "place", "index"] spLLess)
    (M1 : CalM P w K mg base (L2.CX P w) 8 "price" ["self", "name", "place", "index", "number"] (spPrice K)) (M2 : CalM P w K mg base (L2.CX P w) 8 "part" ["self", "name", "place", "index", "goal", "number"] (spPart K)) (M3 : CalM P w K mg base (L2.CX P w) 8 "less" ["self", "name", "place", "index"] (spLess K))
    (f : Addr) (A : Around) (outer : List Env) (s : Shared) (H : Hp) (E : XK) (hr : Room 11 (A.deeper (envOfC "_law_changed" (defScope sLChanged) s.heap.objs.size f (.ref c)))) :
    ∃ tT : TS, PSs (xLChanged P w K mg base f c A outer s H E) ((defBody sLChanged).drop 2) tT ∧
      ∀ (l p da dx lp lf an cur : Addr) (past fut : List Addr) (es fs : List Ent) (z : Str) (size : Nat) (H1 : Hp) (Q : VK), 1 ≤ size → size ≤ 16 → Bowl H1 l → Tabs T H1 → Shf K H1 p dx lp lf an past cur fut → DE H1 cur es → DE H1 da fs → accE es = accE fs → AOk (accE fs) → past.length ≤ 1000 → l ≠ lp → l ≠ lf →
        AtK (.str z) → Moved K T l p dx lp lf an past cur fut H1 Q →
        tT { nx := fun _ H' => Q .non H', rt := Q } [some (.ref l), some (.ref p), some (.ref da), some (.str z), some (.int (size : Int)), none, none, none, none, none, none, none, none, none, none] H1 := by
  obtain ⟨tR, hPR, hRest⟩ := changed_tail (P := P) (w := w) (base := base) (c := c) F Ts D hmT hu HO G2 G3 G4 G5 M1 M2 M3 f A outer s H E hr
  refine ⟨_, pss_cons (ps_asg (pe_lc (own := [("turn", 7)]) (g := gName 7) (tt := tYes) rfl scLChanged.nd (pi_range1 rfl (F.b "range" (by decide)) (pa_cons pe_int pa_nil)) (blkOk_by (N := nLChanged) (sc := defScope sLChanged) (by decide +kernel))
        (fun _ _ _ _ _ => pg_name (i := 7) scLChanged.nd rfl (Or.inl rfl)) (fun _ _ _ _ _ => pts_nil) (fun _ _ _ _ _ => pe_cal G1 (hr.mono (by decide)) (by rfl) pass0 (pa_cons (pv 0) (pa_cons (pe_lst (pa_cons pe_int (pa_cons pe_int (pa_cons pe_int (pa_cons pe_int (pa_cons pe_int (pa_cons (pe_op op_sub (pv 4) pe_int) (pa_cons (pv 4) (pa_cons (pe_op op_sub pe_int pe_int) (pa_cons pe_bl (pa_cons pe_non pa_nil))))))))))) pa_nil))))
        (pg_lst (n := 2) rfl (pgs_cons (pg_name (i := 5) scLChanged.nd rfl (Or.inr rfl)) (pgs_cons (pg_name (i := 6) scLChanged.nd rfl (Or.inr rfl)) pgs_nil))))
    (pss_cons (ps_set (i := 8) scLChanged.nd rfl (Or.inr rfl) (pe_cal G1 (hr.mono (by decide)) (by rfl) pass0 (pa_cons (pv 0) (pa_cons (pe_lst (pa_cons pe_int (pa_cons pe_int (pa_cons (pe_op op_sub (pv 4) pe_int) (pa_cons (pv 4) (pa_cons (pe_op op_sub pe_int pe_int) (pa_cons pe_str pa_nil))))))) pa_nil))))
    (pss_cons (ps_set (i := 9) scLChanged.nd rfl (Or.inr rfl) (pe_cal G1 (hr.mono (by decide)) (by rfl) pass0 (pa_cons (pv 0) (pa_cons (pe_lst (pa_cons pe_int (pa_cons pe_int (pa_cons pe_int (pa_cons pe_int (pa_cons pe_int (pa_cons (pe_op op_pow pe_int pe_int) (pa_cons (pe_op op_add (pe_op op_pow pe_int pe_int) pe_int) pa_nil)))))))) pa_nil))))
    (pss_cons (ps_set (i := 10) scLChanged.nd rfl (Or.inl rfl) (pe_cal G1 (hr.mono (by decide)) (by rfl) pass0 (pa_cons (pv 0) (pa_cons (pe_lst (pa_cons pe_str (pa_cons pe_str (pa_cons pe_str (pa_cons pe_str pa_nil))))) pa_nil)))) (by exact hPR)))), ?_⟩
  intro l p da dx lp lf an cur past fut es fs z size H1 Q h1 h16 hB hT sh de df eac hA hpl hne hne2 hz hmov
  have plp : p ≠ l := by
    obtain ⟨_, _, _, hb1⟩ := hB
    exact ne_of sh.at_ hb1 (by intro z; cases z)
  have anl : an ≠ l := by
    obtain ⟨_, _, _, hb1⟩ := hB
    exact ne_of sh.an_ hb1 (by intro z; cases z)
  refine ⟨_, rfl, by decide, by decide, fun N hN => ?_⟩
  have hNl : N ≠ l := fun z => hB.ne (z ▸ hN)
  have sN : Same H1 (upd H1 N (.lst [])) := same_laid hN
  refine lc_range (lo := 0) (n := (2 : Int).toNat) (fun t H' => Kp [l] H1 H' ∧ Bowl H' l ∧ ∃ vs, H' N = some (.lst vs) ∧ vs.length = t ∧ ∀ v ∈ vs, AtK v) ⟨Kp.of sN, hB.same sN, [], upd_same, rfl, (fun v h => by cases h)⟩ (fun t H3 ht hP => ?_) (fun H3 hP => ?_)
  · obtain ⟨k3, hB3, vs, hN3, hvl, hvs⟩ := hP
    refine ⟨rfl, lc_yes ⟨_, rfl, _, rfl, _, _, rfl, rfl, _, rfl, _, _, rfl, rfl, ?_⟩⟩
    refine ⟨by show 10 ≤ sizeLine; rw [sizeLine_eq]; decide, fun a ha => ?_⟩
    have hal : a ≠ l := fun z => hB3.ne (z ▸ ha)
    have s4 := same_laid (o := .lst [.int 0, .int 0, .int 1, .int 1, .int 2, .int ((size : Int) - 1), .int (size : Int), .int (0 - 1), .bl true, .non]) ha
    refine ⟨l, _, rfl, hB3.same s4, .inr ⟨a, _, rfl, upd_same, hal, by simp, by simp, fun y H4 hy k4 hB4 => ?_⟩⟩
    have hN4 := k4 _ _ (s4 _ _ hN3) (by simpa using hNl)
    have hyk : AtK y := by
      simp only [List.mem_cons, List.not_mem_nil, or_false] at hy
      rcases hy with e | e | e | e | e | e | e | e | e | e <;> rw [e]
      · exact atk_int (by decide) (by decide)
      · exact atk_int (by decide) (by decide)
      · exact atk_int (by decide) (by decide)
      · exact atk_int (by decide) (by decide)
      · exact atk_int (by decide) (by decide)
      · exact atk_int (by omega) (by omega)
      · exact atk_int (by omega) (by omega)
      · exact atk_int (by decide) (by decide)
      · exact atk_bl true
      · exact atk_non
    refine ⟨vs, hN4, by rw [sizeLine_eq]; have : t < 2 := ht; omega, ((k3.trans (Kp.of s4)).trans k4).put (.inr hN), ?_, vs ++ [y], upd_same, by simp [hvl], fun v hv => ?_⟩
    · obtain ⟨b0, b1, b2, hb⟩ := hB4
      exact ⟨b0, b1, b2, by rw [upd_ne (Ne.symm hNl)]; exact hb⟩
    · rcases List.mem_append.mp hv with z | z
      · exact hvs v z
      · rw [List.mem_singleton.mp z]
        exact hyk
  · obtain ⟨k3, hB3, vs, hN3, hvl, hvs⟩ := hP
    match vs, hvl with
    | [yp, yi], _ =>
    obtain ⟨dp, ap, kp0⟩ := hvs yp (by simp)
    obtain ⟨di, ai, ki⟩ := hvs yi (by simp)
    refine ⟨N, _, rfl, SqL.of hN3, rfl, _, _, rfl, _, _, rfl, rfl, ?_⟩
    -- goal
    refine ⟨_, rfl, _, rfl, _, _, rfl, rfl, _, rfl, _, _, rfl, rfl, ?_⟩
    refine ⟨by show 6 ≤ sizeLine; rw [sizeLine_eq]; decide, fun a ha => ?_⟩
    have hal : a ≠ l := fun z => hB3.ne (z ▸ ha)
    have s4 := same_laid (o := .lst [.int 0, .int 1, .int ((size : Int) - 1), .int (size : Int), .int (0 - 1), .str "1"]) ha
    refine ⟨l, _, rfl, hB3.same s4, .inr ⟨a, _, rfl, upd_same, hal, by simp, by simp, fun yg H4 hy k4 hB4 => ?_⟩⟩
    have hgk : AtK yg := by
      simp only [List.mem_cons, List.not_mem_nil, or_false] at hy
      rcases hy with e | e | e | e | e | e <;> rw [e]
      · exact atk_int (by decide) (by decide)
      · exact atk_int (by decide) (by decide)
      · exact atk_int (by omega) (by omega)
      · exact atk_int (by omega) (by omega)
      · exact atk_int (by decide) (by decide)
      · exact atk_str (by decide +kernel) (by decide +kernel)
    have k4' := (k3.trans (Kp.of s4)).trans k4
    clear hy k4 s4 hal ha
    obtain ⟨dg, ag, kg⟩ := hgk
    -- number
    refine ⟨_, rfl, _, _, rfl, rfl, ⟨by decide, by decide, by decide⟩, _, _, rfl, rfl, ⟨by decide, by decide, by decide⟩, _, _, rfl, rfl, ?_⟩
    refine ⟨by show 7 ≤ sizeLine; rw [sizeLine_eq]; decide, fun a ha => ?_⟩
    have hal : a ≠ l := fun z => hB4.ne (z ▸ ha)
    have s5 := same_laid (o := .lst [.int 0, .int 0, .int 1, .int 2, .int 3, .int (10 ^ 6), .int (10 ^ 6 + 1)]) ha
    refine ⟨l, _, rfl, hB4.same s5, .inr ⟨a, _, rfl, upd_same, hal, by simp, by simp, fun yn H5 hy k5 hB5 => ?_⟩⟩
    obtain ⟨n, rfl, hnk⟩ : ∃ n, yn = .int n ∧ AtK (.int n) := by
      simp only [List.mem_cons, List.not_mem_nil, or_false] at hy
      rcases hy with e | e | e | e | e | e | e
      · exact ⟨_, e, atk_int (by decide) (by decide)⟩
      · exact ⟨_, e, atk_int (by decide) (by decide)⟩
      · exact ⟨_, e, atk_int (by decide) (by decide)⟩
      · exact ⟨_, e, atk_int (by decide) (by decide)⟩
      · exact ⟨_, e, atk_int (by decide) (by decide)⟩
      · exact ⟨_, e, atk_big⟩
      · exact ⟨_, e, atk_big1⟩
    have k5' := (k4'.trans (Kp.of s5)).trans k5
    clear hy k5 s5 hal ha
    -- way
    refine ⟨_, rfl, ?_⟩
    refine ⟨by show 4 ≤ sizeLine; rw [sizeLine_eq]; decide, fun a ha => ?_⟩
    have hal : a ≠ l := fun z => hB5.ne (z ▸ ha)
    have s6 := same_laid (o := .lst [.str "price", .str "part", .str "part", .str "less"]) ha
    refine ⟨l, _, rfl, hB5.same s6, .inr ⟨a, _, rfl, upd_same, hal, by simp, by simp, fun yw H6 hy k6 hB6 => ?_⟩⟩
    obtain ⟨way, rfl, hw⟩ : ∃ way : Str, yw = .str way ∧ (way = "price" ∨ way = "part" ∨ way = "less") := by
      simp only [List.mem_cons, List.not_mem_nil, or_false] at hy
      rcases hy with e | e | e | e
      · exact ⟨_, e, .inl rfl⟩
      · exact ⟨_, e, .inr (.inl rfl)⟩
      · exact ⟨_, e, .inr (.inl rfl)⟩
      · exact ⟨_, e, .inr (.inr rfl)⟩
    have k := (k5'.trans (Kp.of s6)).trans k6
    obtain ⟨dz, az, kz⟩ := hz
    obtain ⟨dn, an0, kn⟩ := hnk
    cases az with
    | str _ lz =>
    cases an0 with
    | int _ in1 in2 =>
    have mB : Mu H1 [l] := hB.mu
    exact hRest l p da dx lp lf an cur past fut es fs z way yp yi yg dp di dg n size _ H6 Q hB6 (k.tabs mB hT) (sh.kt k.kt (by simpa using plp) (by simpa using Ne.symm hne) (by simpa using Ne.symm hne2) (by simpa using anl)) (de.kp k mB) (df.kp k mB) eac hA hpl hne
      (.str z lz) ap ai ag (.int n in1 in2) kz kp0 ki kg kn hw (hmov.kp k hB6)
theorem ok_lchanged {c Pt : Addr} {T : List (Addr × Str)} (F : Fx K mg) (Ts : Fs K mg) (D : AtC K mg base "_law_changed" sLChanged c Pt) (hmT : (Pt, ("_law_changed.<locals>.<lambda>" : Str)) ∈ T) (hu : ∀ p ∈ T, p.1 = Pt → p.2 = ("_law_changed.<locals>.<lambda>" : Str)) (HO : HeardOk P w K mg base)
    (G1 : Cal P w K mg base CX0 2 "_law_one_of" ["bowl", "items"] spOneOf) (G2 : Cal P w K mg base CX0 2 "_law_wrong" ["bowl", "account", "name", "place", "index", "goal", "number", "way"] spLWrong)
    (G3 : Cal P w K mg base CX0 3 "_law_parted" ["machine", "place", "index", "goal", "number"] spLParted) (G4 : Cal P w K mg base CX0 3 "_law_priced" ["machine", "place", "index", "number"] spLPriced) (G5 : Cal P w K mg base CX0 3 "_law_lessened" ["machine", "place", "index"] spLLess)
    (M1 : CalM P w K mg base (L2.CX P w) 8 "price" ["self", "name", "place", "index", "number"] (spPrice K)) (M2 : CalM P w K mg base (L2.CX P w) 8 "part" ["self", "name", "place", "index", "goal", "number"] (spPart K)) (M3 : CalM P w K mg base (L2.CX P w) 8 "less" ["self", "name", "place", "index"] (spLess K)) :
    Cal P w K mg base CX0 12 "_law_changed" ["bowl", "shelf", "account"] (spLChanged K T) := by
  refine cal_ofC D scLChanged (fun vs H Q E h => ?_) (fun _ _ _ _ _ _ us hl => match us, hl with | [_, _, _], _ => rfl) fun f A outer s H vs Q E hr h => ?_
  · obtain ⟨l, p, da, dx, lp, lf, an, past, cur, fut, es, fs, rfl, _⟩ := h
    rfl
  obtain ⟨tS, hPS, hS⟩ := changed_draws (P := P) (w := w) (base := base) (c := c) F Ts D hmT hu HO G1 G2 G3 G4 G5 M1 M2 M3 f A outer s H E hr
  refine ⟨_, PSs.nox (pss_cons (ps_set (i := 3) scLChanged.nd rfl (Or.inr rfl) (pe_cal G1 (hr.mono (by decide)) (by rfl) pass0 (pa_cons (pv 0) (pa_cons (pe_op op_cat (pe_callB (call_sortedD rfl) (by rfl) (F.b "sorted" (by decide)) (by decide +kernel) (pa_cons (pv 2) pa_nil)) (pe_lst (pa_cons pe_str pa_nil))) pa_nil))))
    (pss_cons (ps_set (i := 4) scLChanged.nd rfl (Or.inr rfl) (pe_ifExp (pt_cmp (pc_din (hu_of hr) (pv 3) (pv 2))) (pe_callB call_len (by rfl) (F.b "len" (by decide)) boot_len (pa_cons (pe_ix ix_tup (pe_dget (hu_of hr) (pv 2) (pv 3) (fun _ _ => rfl)) pe_int (fun _ _ => rfl)) pa_nil)) pe_int))
    hPS)), ?_⟩
  obtain ⟨l, p, da, dx, lp, lf, an, past, cur, fut, es, fs, rfl, hB, hT, sh, de, df, eac, hA, hpl, hne, hne2, hmov⟩ := h
  have hfl : fs.length ≤ 5 := by
    have := hA.len
    rw [accE_len] at this
    exact this
  -- name
  refine ⟨_, rfl, _, rfl, da, kvE fs, fs.map (·.1), rfl, .inl df.at_, by simp [kvE, Function.comp_def], by rw [List.length_map]; omega, fun ys L hyp hys hL => ?_⟩
  have hyl : ys.length = fs.length := by rw [hyp.length_eq, List.length_map]
  have s1 : Same H (upd H L (.lst (ys.map V.str))) := same_laid hL
  have hL1 : (upd H L (.lst (ys.map V.str))) L = some (.lst (ys.map V.str)) := upd_same
  generalize upd H L (.lst (ys.map V.str)) = H1 at s1 hL1
  refine ⟨by show 1 ≤ sizeLine; rw [sizeLine_eq]; decide, fun x hx => ?_⟩
  have s2 : Same H1 (upd H1 x (.lst [.str "zz"])) := same_laid hx
  have hx2 : (upd H1 x (.lst [.str "zz"])) x = some (.lst [.str "zz"]) := upd_same
  generalize upd H1 x (.lst [.str "zz"]) = H2 at s2 hx2
  refine ⟨L, x, _, _, rfl, rfl, s2 _ _ hL1, hx2, by rw [List.length_map, sizeLine_eq, List.length_singleton]; omega, fun q hq => ?_⟩
  have s3 : Same H2 (upd H2 q (.lst (ys.map V.str ++ [.str "zz"]))) := same_laid hq
  have sA := (s1.trans s2).trans s3
  have hql : q ≠ l := fun z => ((hB.same s1).same s2).ne (z ▸ hq)
  refine ⟨l, _, rfl, hB.same sA, .inr ⟨q, _, rfl, upd_same, hql, by simp, by simp; omega, fun zv H3 hzv k3 hB3 => ?_⟩⟩
  have kA : Kp [l] H H3 := (Kp.of sA).trans k3
  clear k3 hql s3 hq hx2 s2 hL1 s1 sA
  obtain ⟨z, rfl, hz⟩ : ∃ z, zv = .str z ∧ z ∈ nmL ++ [("zz" : Str)] := by
    rcases List.mem_append.mp hzv with hz | hz
    · obtain ⟨z, hz2, rfl⟩ := List.mem_map.mp hz
      obtain ⟨e, he, rfl⟩ := List.mem_map.mp (hyp.mem_iff.mp hz2)
      exact ⟨_, rfl, List.mem_append_left _ (hA.nm (e.1, e.2.2) (List.mem_map.mpr ⟨e, he, rfl⟩))⟩
    · exact ⟨_, List.mem_singleton.mp hz, List.mem_append_right _ (List.mem_singleton.mpr rfl)⟩
  have mB : Mu H [l] := hB.mu
  have df3 := df.kp kA mB
  -- size
  have hgz : DGet H3 da (.str z) ((getA fs z).map fun p => p.1) := by
    have := DGet.k (k := Sum.inr z) df3.at_
    rw [kvE_get] at this
    exact this
  have fin : ∀ size : Nat, 1 ≤ size → size ≤ 16 → tS { nx := fun _ H' => Q .non H', rt := Q } [some (.ref l), some (.ref p), some (.ref da), some (.str z), some (.int (size : Int)), none, none, none, none, none, none, none, none, none, none] H3 := fun size h1 h2 => by
    have plp : p ≠ l := by
      obtain ⟨_, _, _, hb1⟩ := hB
      exact ne_of sh.at_ hb1 (by intro z; cases z)
    have anl : an ≠ l := by
      obtain ⟨_, _, _, hb1⟩ := hB
      exact ne_of sh.an_ hb1 (by intro z; cases z)
    exact hS l p da dx lp lf an cur past fut es fs z size H3 Q h1 h2 hB3 (kA.tabs mB hT) (sh.kt kA.kt (by simpa using plp) (by simpa using Ne.symm hne) (by simpa using Ne.symm hne2) (by simpa using anl)) (de.kp kA mB) df3 eac hA hpl hne hne2 (atk_nm hz) (hmov.kp kA hB3)
  refine ⟨_, rfl, _, rfl, da, _, rfl, hgz, _, rfl, ?_⟩
  cases hg : getA fs z with
  | none => exact iteF (fin 2 (by decide) (by decide))
  | some vm =>
    obtain ⟨v, m⟩ := vm
    rw [hg] at hgz
    have hme := accE_some hg
    have hokm := hA.ok (z, m) (getA_acc hme)
    obtain ⟨a1, a2, _⟩ := okM_of hokm
    have hm : Tp H3 v (dM m) := (df3.ok _ (getA_mem hg)).2
    obtain ⟨a, b, xs, rfl, ha, _⟩ := mach_of hm
    refine iteT ⟨_, rfl, _, rfl, da, _, rfl, hgz, a, _, 0, _, rfl, rfl, SqT.of ha, rfl, _, _, rfl, ⟨by rw [sizeLine_eq]; have : m.1.length ≤ 16 := a2; omega, rfl⟩, fin m.1.length a1 a2⟩
end
end T83

set_option Elab.async false
set_option linter.all false
set_option maxRecDepth 100000
set_option maxHeartbeats 2000000
namespace T83
open PySem PySem.Spec PyProof.Rows L2 RZ LamX
section
variable {K : PySem.W.Frag}
theorem rows_lay : ∀ rs : List (List Chc), PyData.canLayAll0 (rs.map dRow) = true ∧ PyData.depthAll (rs.map dRow) ≤ 4
  | [] => ⟨rfl, by show 0 ≤ 4; decide⟩
  | r :: rs => by
    have h := rows_lay rs
    have h2 := dCs_dep r
    show PyData.canLayAll0 (dRow r :: rs.map dRow) = true ∧ PyData.depthAll (dRow r :: rs.map dRow) ≤ 4
    rw [PyData.canLayAll0, PyData.depthAll, h.1]
    unfold dRow at *
    rw [PyData.canLay0, dCs_lay, PyData.depth]
    exact ⟨rfl, by omega⟩
theorem rows_shaped (rs : List (List Chc)) : SeqAt.shaped (.tuple (rs.map dRow)) = true := by
  have h := rows_lay rs
  unfold SeqAt.shaped
  rw [PyData.canLay0, h.1, Bool.true_and, decide_eq_true_eq, PyData.depth]
  omega
theorem bowl_ne {H : Hp} {l a : Addr} {o : HO} (h : Bowl H l) (e : H a = some o) (n : ∀ xs, o ≠ .lst xs) : a ≠ l := by
  obtain ⟨_, _, _, hb⟩ := h
  exact ne_of e hb (n _)
/-- nothing has been done -/
theorem moved_quiet {T : List (Addr × Str)} {l p dx lp lf an cur : Addr} {past fut : List Addr} {H1 H2 H' : Hp} {Q : VK} {u : Addr} (hmov : Moved K T l p dx lp lf an past cur fut H1 Q) (hB : Bowl H1 l) (sh : Shf K H1 p dx lp lf an past cur fut) (eN : ExtN H1 H2) (T2 : Tabs T H2) (sm : Same H2 H')
    (hu : H' u = some (.tup [.bl true, .non])) : Q (.ref u) H' := by
  have k : Kt [] H1 H' := (Kt.of eN).trans (Kp.of sm).kt
  exact hmov H' u .non (k.wide fun c h => by cases h) (hB.kt k (by simp)) ((Kp.of sm : Kp [] H2 H').tabs (Mu.nil _) T2) hu (.inl ⟨rfl, sh.kt k (by simp) (by simp) (by simp) (by simp)⟩)
/-- a step has been done -/
theorem moved_step {T : List (Addr × Str)} {l p dx lp lf an cur : Addr} {past fut : List Addr} {H1 H2 H3 H4 : Hp} {Q : VK} {u dl lf' an' cu : Addr} {es' fs' : List Ent} (hmov : Moved K T l p dx lp lf an past cur fut H1 Q) (hB : Bowl H1 l) (sh : Shf K H1 p dx lp lf an past cur fut) (hne : l ≠ lp) (eN : ExtN H1 H2) (T2 : Tabs T H2)
    (kp : Kp [p, lp] H2 H3) (sm : Same H3 H4) (h1 : H2 lf' = none) (hdc : dl ≠ cu) (hsh : Shf K H3 p dx lp lf' an' (past ++ [cur]) cu []) (hcu : DE H3 cu es') (hdl : DE H4 dl fs') (he : accE es' = accE fs') (hA : AOk (accE fs')) (hu : H4 u = some (.tup [.bl true, .ref dl])) : Q (.ref u) H4 := by
  have m22 : Mu H2 [p, lp] := Mu.cons (eN _ _ sh.at_ (fun _ z => by cases z)) True.intro (Mu.cons (eN _ _ sh.lp_ (fun _ z => by cases z)) True.intro (Mu.nil _))
  have k4 : Kt [p, lp] H1 H4 := ((Kt.of eN : Kt [p, lp] H1 H2).trans kp.kt).trans (Kp.of sm).kt
  have hpp : p ≠ l := bowl_ne hB sh.at_ (fun xs z => by cases z)
  exact hmov H4 u (.ref dl) (k4.wide fun c hc => .inl (by simp at hc ⊢; rcases hc with q | q <;> simp [q])) (hB.kt k4 (by simp; exact ⟨Ne.symm hpp, hne⟩)) ((Kp.of sm : Kp [] H3 H4).tabs (Mu.nil _) (kp.tabs m22 T2)) hu
    (.inr ⟨dl, lf', an', cu, es', fs', rfl, hdc, newN_ext eN h1, hdl, hcu.same sm, he, hA, hsh.same sm⟩)
end
section
variable {P : Program} {w : World} {K : PySem.W.Frag} {mg : Str → Option Value} {base : Heap}
/-! ### _law_put_or_dropped -/
abbrev sLPD : Stmt := top 119
abbrev nLPD : List Str := ["bowl", "shelf", "account", "name", "is_name_v", "told", "one", "machine"]
theorem scLPD : FnScope nLPD ["bowl", "shelf", "account"] (defScope sLPD) := ⟨rfl, rfl, rfl, by decide +kernel, rfl, by decide +kernel, by decide +kernel⟩
abbrev xLPD (P : Program) (w : World) (K : PySem.W.Frag) (mg : Str → Option Value) (base : Heap) (f c : Addr) (A : Around) (outer : List Env) (s : Shared) (H : Hp) (E : XK) : Cx := (cxOf CX0 P w K mg base nLPD "_law_put_or_dropped" (defScope sLPD) f (.ref c) A outer s H E).nox
theorem pd_put {c Pt : Addr} {T : List (Addr × Str)} (F : Fx K mg) (Ts : Fs K mg) (D : AtC K mg base "_law_put_or_dropped" sLPD c Pt) (hmT : (Pt, ("_law_put_or_dropped.<locals>.<lambda>" : Str)) ∈ T) (hu : ∀ p ∈ T, p.1 = Pt → p.2 = ("_law_put_or_dropped.<locals>.<lambda>" : Str)) (HO : HeardOk P w K mg base)
    (M1 : CalM P w K mg base (L2.CX P w) 8 "put" ["self", "name", "machine"] (spPut K))
    (f : Addr) (A : Around) (outer : List Env) (s : Shared) (H : Hp) (E : XK) (hr : Room 11 (A.deeper (envOfC "_law_put_or_dropped" (defScope sLPD) s.heap.objs.size f (.ref c)))) :
    ∃ tT : TS, PSs (xLPD P w K mg base f c A outer s H E) ((defBody sLPD).drop 5) tT ∧
      ∀ (l p da dx lp lf an cur : Addr) (past fut : List Addr) (es fs : List Ent) (x y : V) (b : Bool) (d : PyData) (u6 : Option V) (om : Option Mach) (H1 : Hp) (Q : VK), Bowl H1 l → Tabs T H1 → Shf K H1 p dx lp lf an past cur fut → DE H1 cur es → DE H1 da fs → accE es = accE fs → AOk (accE fs) → past.length ≤ 1000 → l ≠ lp →
        Atm x d → (∀ z, d = .str z → z.length ≤ 1000) → b = isNm d → (b = true → ∃ z ∈ nmL, x = .str z ∧ d = .str z) → MX H1 y om → (∀ m, om = some m → okM m = true ∨ (okM m = false ∧ m.2 = [])) → Moved K T l p dx lp lf an past cur fut H1 Q →
        tT { nx := fun _ H' => Q .non H', rt := Q } [some (.ref l), some (.ref p), some (.ref da), some x, some (.bl b), none, u6, some y] H1 := by
  obtain ⟨gh, fdh, hm, hk, hb, GH⟩ := HO.ex
  have r8 : Room (8 + 3) (A.deeper (envOfC "_law_put_or_dropped" (defScope sLPD) s.heap.objs.size f (.ref c))) := hr
  refine ⟨_, pss_cons (ps_set (i := 5) scLPD.nd rfl (Or.inl rfl) (pe_lamto (T := T) (j := 8) (t := fun E => tMeth (aS K) "put" (spPut K) [] E (tVar 1) (tCons (tVar 3) (tCons (tVar 7) tNil))) GH rfl hm hk hb D.tb rfl hmT hu r8 (lamS_by (show lamSB (defScope sLPD) _ = true by decide +kernel)) (fun A outer s H E f c' hr2 => pe_calm Ts.cl M1 hr2 passL (pv 1) (pa_cons (pv 3) (pa_cons (pv 7) pa_nil)))))
    (pss_cons (ps_if (pt_not (pt_val (pv 4))) (pss_one (ps_ret (pe_tup (pa_cons (pe_cmpR (op_eqD hr.units) (pv 5) (pe_tup (pa_cons pe_str (pa_cons pe_str pa_nil))) (nomark _)) (pa_cons pe_non pa_nil))))) pss_nil)
    (pss_cons (ps_if (pw_or (pt_cmpR op_isN (pv 7) pe_non (nomark _)) (pw_or1 (pt_cmpR (op_eqD hr.units) (pe_ix ix_tup (pv 7) pe_int (fun _ _ => rfl)) (pe_tup pa_nil) (nomark _)))).pt (pss_one (ps_ret (pe_tup (pa_cons (pe_cmpR (op_eqD hr.units) (pv 5) (pe_tup (pa_cons pe_str (pa_cons pe_str pa_nil))) (nomark _)) (pa_cons pe_non pa_nil))))) pss_nil)
    (pss_one (ps_ret (pe_tup (pa_cons (pe_cmpR (op_eqD hr.units) (pv 5) (pe_tup (pa_cons pe_str (pa_cons pe_non pa_nil))) (nomark _)) (pa_cons (pe_callTy (call_dictP rfl) (by rfl) (F.b "dict" (by decide)) (by decide +kernel) (pa_cons (pe_op op_cat (LiI.pe_listItems rfl (pv 2) (by rfl) (F.b "list" (by decide)) (by decide +kernel)) (pe_lst (pa_cons (pe_tup (pa_cons (pv 3) (pa_cons (pv 7) pa_nil))) pa_nil))) pa_nil)) pa_nil))))))), ?_⟩
  intro l p da dx lp lf an cur past fut es fs x y b d u6 om H1 Q hB hT sh de df eac hA hpl hne ax hxl hbn hnm hMX hom hmov
  have hAe : AOk (accE es) := by rw [eac]; exact hA
  have hel : es.length ≤ 5 := by
    have := hAe.len
    rw [accE_len] at this
    exact this
  refine ⟨hT, fun H2 eN T2 => ?_⟩
  have k2 : Kt [] H1 H2 := Kt.of eN
  have sh2 : Shf K H2 p dx lp lf an past cur fut := sh.kt k2 (by simp) (by simp) (by simp) (by simp)
  have de2 : DE H2 cur es := de.kt k2 (Mu.nil _)
  have hMX2 : MX H2 y om := hMX.keep (k2.tups (Mu.nil _))
  refine ⟨_, rfl, p, dx, _, rfl, sh2.at_, rfl, _, rfl, _, rfl, p, dx, lp, lf, an, past, cur, fut, es, x, d, y, om, rfl, sh2, de2, hpl, by omega, ax.dv H2, hxl, hMX2, fun e1 => ?_, fun e1 e2 => ?_, fun z m ez em e1 e2 => ⟨fun h12 => by omega, fun _ v hv => stepd_told fun H3 lf' cu an' t h1 h2 kp hcu hsh ht => ?_⟩⟩
  · refine bad_name fun H3 t s3 ht => ?_
    have s4 : Same H2 (upd H3 t (.tup [.str "raised", .str "name"])) := s3.trans (same_laid ht)
    have ht4 : (upd H3 t (.tup [.str "raised", .str "name"])) t = some (.tup [.str "raised", .str "name"]) := upd_same
    generalize upd H3 t (.tup [.str "raised", .str "name"]) = H4 at s4 ht4
    rw [e1] at hbn
    subst hbn
    refine ⟨_, rfl, _, rfl, iteT ⟨_, rfl, two_le2, fun u hu => ?_⟩⟩
    have su : Same H4 (upd H4 u (.tup [.str "raised", .str "name"])) := same_laid hu
    refine ⟨_, _, dp_two (su _ _ ht4), dp_two upd_same, shaped_two (by decide +kernel) (by decide +kernel), shaped_two (by decide +kernel) (by decide +kernel), two_le2, fun v hv => ?_⟩
    rw [eqv_two, beq_self_eq_true, beq_self_eq_true]
    exact moved_quiet hmov hB sh eN T2 ((s4.trans su).trans (same_laid hv)) upd_same
  · refine bad_mach fun H3 t s3 ht => ?_
    have s4 : Same H2 (upd H3 t (.tup [.str "raised", .str "machine"])) := s3.trans (same_laid ht)
    have ht4 : (upd H3 t (.tup [.str "raised", .str "machine"])) t = some (.tup [.str "raised", .str "machine"]) := upd_same
    generalize upd H3 t (.tup [.str "raised", .str "machine"]) = H4 at s4 ht4
    rw [e1] at hbn
    subst hbn
    have out : ∀ H5, Same H4 H5 → tRet (tTup (tCons (tOp (rEqD K) (tVar 5) (tTup (tCons (tC (.str "raised")) (tCons (tC (.str "machine")) tNil)))) (tCons (tC .non) tNil))) { nx := fun _ H' => Q .non H', rt := Q } [some (.ref l), some (.ref p), some (.ref da), some x, some (.bl true), some (.ref t), u6, some y] H5 := fun H5 s5 => by
      refine ⟨_, rfl, two_le2, fun u hu => ?_⟩
      have su : Same H5 (upd H5 u (.tup [.str "raised", .str "machine"])) := same_laid hu
      refine ⟨_, _, dp_two (su _ _ (s5 _ _ ht4)), dp_two upd_same, shaped_two (by decide +kernel) (by decide +kernel), shaped_two (by decide +kernel) (by decide +kernel), two_le2, fun v hv => ?_⟩
      rw [eqv_two, beq_self_eq_true, beq_self_eq_true]
      exact moved_quiet hmov hB sh eN T2 (((s4.trans s5).trans su).trans (same_laid hv)) upd_same
    refine ⟨_, rfl, _, rfl, iteF ⟨_, rfl, rfl, _, rfl, ?_⟩⟩
    cases hMX2 with
    | non => exact iteT (iteT (out H4 (Same.refl _)))
    | @m _ m hm hs =>
      obtain ⟨a0, b0, xs, rfl, ha0, hb0, hxs⟩ := mach_of hm
      have hm2 : m.2 = [] := by
        rcases hom m rfl with z | z
        · rw [show okX (some m) = okM m from rfl, z] at e2
          cases e2
        · exact z.2
      refine iteF ⟨_, rfl, a0, _, 1, _, rfl, rfl, SqT.of (s4 _ _ ha0), rfl, by show 0 ≤ sizeLine; rw [sizeLine_eq]; decide, fun q hq => ?_⟩
      have sq : Same H4 (upd H4 q (.tup [])) := same_laid hq
      refine ⟨.tuple (m.2.map dRow), .tuple [], (TpAll.dp (hxs.keep (s4.trans sq).tups) |> Dp.tup (SqT.of ((s4.trans sq) _ _ hb0))), .tup (SqT.of upd_same) .nil, rows_shaped _, by decide +kernel, _, rfl, ?_⟩
      rw [hm2]
      exact iteT (out _ sq)
  · subst em
    cases hMX2 with
    | @m _ _ hm hs =>
    have s4 : Same H3 (upd H3 t (.tup [.str "told", .non])) := same_laid ht
    have ht4 : (upd H3 t (.tup [.str "told", .non])) t = some (.tup [.str "told", .non]) := upd_same
    generalize upd H3 t (.tup [.str "told", .non]) = H4 at s4 ht4
    have m22 : Mu H2 [p, lp] := Mu.cons sh2.at_ True.intro (Mu.cons sh2.lp_ True.intro (Mu.nil _))
    have tk4 : TupK H2 H4 := (kp.tups m22).trans s4.tups
    have hm4 := hm.keep tk4
    have df4 : DE H4 da fs := ((df.kt k2 (Mu.nil _)).kp kp m22).same s4
    obtain ⟨a0, b0, xs, rfl, ha0, hb0, hxs⟩ := mach_of hm4
    have hne2 : m.2 ≠ [] := fun z => by
      obtain ⟨a1, _, _, a4, _⟩ := okM_of e2
      rw [z] at a4
      rw [← a4] at a1
      exact absurd a1 (by decide)
    rw [show isNm d = true from e1] at hbn
    subst hbn
    obtain ⟨z', hz', rfl, ez2⟩ := hnm rfl
    rw [ez] at ez2
    injection ez2 with ez2
    subst ez2
    refine ⟨_, rfl, _, rfl, iteF ⟨_, rfl, rfl, _, rfl, iteF ⟨_, rfl, a0, _, 1, _, rfl, rfl, SqT.of ha0, rfl, by show 0 ≤ sizeLine; rw [sizeLine_eq]; decide, fun q hq => ?_⟩⟩⟩
    have sq : Same H4 (upd H4 q (.tup [])) := same_laid hq
    refine ⟨.tuple (m.2.map dRow), .tuple [], (TpAll.dp (hxs.keep sq.tups) |> Dp.tup (SqT.of (sq _ _ hb0))), .tup (SqT.of upd_same) .nil, rows_shaped _, by decide +kernel, _, rfl, ?_⟩
    rw [eqv_nilT, decide_eq_false (fun z => hne2 (List.map_eq_nil_iff.mp z))]
    generalize upd H4 q (.tup []) = H5 at sq
    refine iteF ⟨_, rfl, two_le2, fun u hu => ?_⟩
    have su : Same H5 (upd H5 u (.tup [.str "told", .non])) := same_laid hu
    refine ⟨_, _, dp_non (su _ _ (sq _ _ ht4)), dp_non upd_same, shaped_non (by decide +kernel), shaped_non (by decide +kernel), ?_⟩
    rw [eqv_toldN]
    generalize upd H5 u (.tup [.str "told", .non]) = H6 at su
    have s6 := sq.trans su
    refine ⟨_, rfl, da, kvE fs, rfl, s6 _ _ df4.at_, fun H7 q2 ts k7 hq7 hts hqt hl7 hp7 => ?_⟩
    refine ⟨_, rfl, _, rfl, two_le2, fun w hw => ?_⟩
    have hfl := hA.len
    rw [accE_len] at hfl
    have hll : ts.length ≤ 5 := by
      rw [hp7.length, kvE_len]
      exact hfl
    have s8 : Same H7 (upd H7 w (.tup [.str z, .ref a0])) := same_laid hw
    have hw5 : (upd H7 w (.tup [.str z, .ref a0])) w = some (.tup [.str z, .ref a0]) := upd_same
    generalize upd H7 w (.tup [.str z, .ref a0]) = H8 at s8 hw5
    refine ⟨by show 1 ≤ sizeLine; rw [sizeLine_eq]; decide, fun x hx => ?_⟩
    have s9 : Same H8 (upd H8 x (.lst [.ref w])) := same_laid hx
    have hx6 : (upd H8 x (.lst [.ref w])) x = some (.lst [.ref w]) := upd_same
    generalize upd H8 x (.lst [.ref w]) = H9 at s9 hx6
    refine ⟨q2, x, _, _, rfl, rfl, s9 _ _ (s8 _ _ hl7), hx6, by rw [List.length_map, sizeLine_eq, List.length_singleton]; omega, fun r hr2 => ?_⟩
    have s10 : Same H9 (upd H9 r (.lst (ts.map V.ref ++ [.ref w]))) := same_laid hr2
    have sA : Same H7 (upd H9 r (.lst (ts.map V.ref ++ [.ref w]))) := (s8.trans s9).trans s10
    have e7 : ts.map V.ref ++ [V.ref w] = (ts ++ [w]).map V.ref := by simp
    refine ⟨r, ts ++ [w], kvE fs ++ [((Sum.inr z : Key), V.ref a0)], rfl, SqL.of (by rw [upd_same, e7]), paired_app (L2.Paired.mapP hp7 fun t kv h => SqT.of (sA _ _ h)) (SqT.of ((s9.trans s10) _ _ hw5)), fun dl hdl => ⟨two_le2, fun u2 hu2 => ?_⟩⟩
    rw [merge_put hA.ndE (m := m)] at hu2 ⊢
    have sB : Same H4 (upd (upd (upd H9 r (.lst (ts.map V.ref ++ [.ref w]))) dl (.dK (kvE (putA fs z (.ref a0, m))))) u2 (.tup [.bl true, .ref dl])) := (((s6.trans k7).trans sA).trans (same_laid hdl)).trans (same_laid hu2)
    refine moved_step hmov hB sh hne eN T2 kp (s4.trans sB) h1 (Ne.symm (ne_of_none ((((s4.trans s6).trans k7).trans sA) _ _ hcu.at_) hdl)) hsh hcu ⟨?_, (df4.ok.keep sB.tups).put (hm4.keep sB.tups)⟩ (by rw [accE_put, accE_put, eac]) (by rw [accE_put]; exact hA.put hz' e2) upd_same
    rw [upd_ne (ne_of_none upd_same hu2)]
    exact upd_same
end
end T83

set_option Elab.async false
set_option linter.all false
set_option maxRecDepth 100000
set_option maxHeartbeats 2000000
namespace T83
open PySem PySem.Spec PyProof.Rows L2 RZ LamX
def ifB : List Stmt → List Stmt
  | .If _ b _ _ :: _ => b
  | _ => []
theorem AOk.del {acc : Acc} (h : AOk acc) (z : Str) : AOk (delA acc z) :=
  ⟨h.nd.sublist ((List.filter_sublist (l := acc)).map _), fun e he => h.nm e (List.mem_filter.mp he).1, fun e he => h.ok e (List.mem_filter.mp he).1⟩
theorem accE_del (es : List Ent) (z : Str) : accE (delA es z) = delA (accE es) z := by
  unfold accE delA
  rw [List.filter_map]
  rfl
section
variable {P : Program} {w : World} {K : PySem.W.Frag} {mg : Str → Option Value} {base : Heap}
theorem pd_drop {c Pt : Addr} {T : List (Addr × Str)} (F : Fx K mg) (Ts : Fs K mg) (D : AtC K mg base "_law_put_or_dropped" sLPD c Pt) (hmT : (Pt, ("_law_put_or_dropped.<locals>.<lambda>" : Str)) ∈ T) (hu : ∀ p ∈ T, p.1 = Pt → p.2 = ("_law_put_or_dropped.<locals>.<lambda>" : Str)) (HO : HeardOk P w K mg base)
    (M1 : CalM P w K mg base (L2.CX P w) 8 "drop" ["self", "name"] (spDrop K))
    (f : Addr) (A : Around) (outer : List Env) (s : Shared) (H : Hp) (E : XK) (hr : Room 11 (A.deeper (envOfC "_law_put_or_dropped" (defScope sLPD) s.heap.objs.size f (.ref c)))) :
    ∃ tT : TS, PSs (xLPD P w K mg base f c A outer s H E) (ifB ((defBody sLPD).drop 2)) tT ∧
      ∀ (l p da dx lp lf an cur : Addr) (past fut : List Addr) (es fs : List Ent) (x : V) (b : Bool) (d : PyData) (H1 : Hp) (Q : VK) (N : L2.St → Hp → Prop), Bowl H1 l → Tabs T H1 → Shf K H1 p dx lp lf an past cur fut → DE H1 cur es → DE H1 da fs → accE es = accE fs → AOk (accE fs) → past.length ≤ 1000 → l ≠ lp →
        Atm x d → PyData.strOk d.shown = true → b = isNm d → (b = true → ∃ z ∈ nmL, x = .str z ∧ d = .str z) → Moved K T l p dx lp lf an past cur fut H1 Q →
        tT { nx := N, rt := Q } [some (.ref l), some (.ref p), some (.ref da), some x, some (.bl b), none, none, none] H1 := by
  obtain ⟨gh, fdh, hm, hk, hb, GH⟩ := HO.ex
  have r8 : Room (8 + 3) (A.deeper (envOfC "_law_put_or_dropped" (defScope sLPD) s.heap.objs.size f (.ref c))) := hr
  refine ⟨_, pss_cons (ps_set (i := 5) scLPD.nd rfl (Or.inl rfl) (pe_lamto (T := T) (j := 8) (t := fun E => tMeth (aS K) "drop" (spDrop K) [] E (tVar 1) (tCons (tVar 3) tNil)) GH rfl hm hk hb D.tb rfl hmT hu r8 (lamS_by (show lamSB (defScope sLPD) _ = true by decide +kernel)) (fun A outer s H E f c' hr2 => pe_calm Ts.cl M1 hr2 passL (pv 1) (pa_cons (pv 3) pa_nil))))
    (pss_cons (ps_if (pw_or (pt_not (pt_val (pv 4))) (pw_or1 (pt_cmp (pc_dnotin (hu_of hr) (pv 3) (pv 2))))).pt (pss_one (ps_ret (pe_tup (pa_cons (pe_cmpR (op_eqD hr.units) (pv 5) (pe_tup (pa_cons pe_str (pa_cons (pe_op op_add_str pe_str (pe_callB call_reprA (by rfl) (F.b "repr" (by decide)) (by decide +kernel) (pa_cons (pv 3) pa_nil))) pa_nil))) (nomark _)) (pa_cons pe_non pa_nil))))) pss_nil)
    (pss_one (ps_ret (pe_tup (pa_cons (pe_cmpR (op_eqD hr.units) (pv 5) (pe_tup (pa_cons pe_str (pa_cons pe_non pa_nil))) (nomark _)) (pa_cons (pe_callTy (call_dictP rfl) (by rfl) (F.b "dict" (by decide)) (by decide +kernel) (pa_cons (pe_lock (pe_lc (own := [("one", 6)]) (g := gName 6) rfl scLPD.nd (pi_keys (pv 2)) (blkOk_by (N := nLPD) (sc := defScope sLPD) (by decide +kernel))
        (fun _ _ _ _ _ => pg_name (i := 6) scLPD.nd rfl (Or.inl rfl)) (fun _ _ _ _ _ => pts_one (pt_cmpR op_ne (pv 6) (pv 3) (nomark _))) (fun _ _ _ _ _ => pe_tup (pa_cons (pv 6) (pa_cons (pe_dget (hu_of hr) (pv 2) (pv 6) (fun _ _ => rfl)) pa_nil))))) pa_nil)) pa_nil)))))), ?_⟩
  intro l p da dx lp lf an cur past fut es fs x b d H1 Q N hB hT sh de df eac hA hpl hne ax hxk hbn hnm hmov
  have hAe : AOk (accE es) := by rw [eac]; exact hA
  have hel : es.length ≤ 5 := by
    have := hAe.len
    rw [accE_len] at this
    exact this
  have hfl : fs.length ≤ 5 := by
    have := hA.len
    rw [accE_len] at this
    exact this
  refine ⟨hT, fun H2 eN T2 => ?_⟩
  have k2 : Kt [] H1 H2 := Kt.of eN
  have sh2 : Shf K H2 p dx lp lf an past cur fut := sh.kt k2 (by simp) (by simp) (by simp) (by simp)
  have de2 : DE H2 cur es := de.kt k2 (Mu.nil _)
  have df2 : DE H2 da fs := df.kt k2 (Mu.nil _)
  refine ⟨_, rfl, p, dx, _, rfl, sh2.at_, rfl, _, rfl, p, dx, lp, lf, an, past, cur, fut, es, x, d, rfl, sh2, de2, hpl, by omega, hAe.ndE, ax.dv H2, fun e1 => ?_, fun z ez e1 => stepd_told fun H3 lf' cu an' t h1 h2 kp hcu hsh ht => ?_⟩
  · refine bad_unk ax fun H3 t s3 ht => ?_
    have s4 : Same H2 (upd H3 t (.tup [.str "raised", .str ("unknown " ++ d.shown)])) := s3.trans (same_laid ht)
    have ht4 : (upd H3 t (.tup [.str "raised", .str ("unknown " ++ d.shown)])) t = some (.tup [.str "raised", .str ("unknown " ++ d.shown)]) := upd_same
    generalize upd H3 t (.tup [.str "raised", .str ("unknown " ++ d.shown)]) = H4 at s4 ht4
    have out : tRet (tTup (tCons (tOp (rEqD K) (tVar 5) (tTup (tCons (tC (.str "raised")) (tCons (tOp rCatS (tC (.str "unknown ")) (tCB rReprA (tCons (tVar 3) tNil))) tNil)))) (tCons (tC .non) tNil))) { nx := N, rt := Q } [some (.ref l), some (.ref p), some (.ref da), some x, some (.bl b), some (.ref t), none, none] H4 := by
      refine ⟨_, rfl, _, rfl, _, _, rfl, ax, _, _, rfl, rfl, ?_, two_le2, fun u hu => ?_⟩
      · have := ax.len
        rw [sizeLine_eq, show ("unknown " : Str).length = 8 from by decide +kernel]
        omega
      have su : Same H4 (upd H4 u (.tup [.str "raised", .str ("unknown " ++ d.shown)])) := same_laid hu
      have ok : PyData.strOk ("unknown " ++ d.shown) = true := strOk_app (by decide +kernel) hxk
      refine ⟨_, _, dp_two (su _ _ ht4), dp_two upd_same, shaped_two (by decide +kernel) ok, shaped_two (by decide +kernel) ok, two_le2, fun v hv => ?_⟩
      rw [eqv_two, beq_self_eq_true, beq_self_eq_true]
      exact moved_quiet hmov hB sh eN T2 ((s4.trans su).trans (same_laid hv)) upd_same
    refine ⟨_, rfl, _, rfl, ?_⟩
    cases b with
    | false => exact iteT (iteT out)
    | true =>
      obtain ⟨z, hz, rfl, rfl⟩ := hnm rfl
      have hg : getA fs z = none := by
        have e1 : (getA (accE es) z).isSome = false := e1
        rw [eac, accE_get] at e1
        cases e : getA fs z with
        | none => rfl
        | some _ => rw [e] at e1; cases e1
      have hgz : DGet H4 da (.str z) none := by
        have := DGet.k (k := Sum.inr z) (df2.same s4).at_
        rw [kvE_get, hg] at this
        exact this
      exact iteF ⟨_, rfl, _, rfl, da, _, rfl, hgz, _, rfl, iteT out⟩
  · subst ez
    have e1 : (getA (accE es) z).isSome = true := e1
    rw [eac] at e1
    cases hgv : getA fs z with
    | none =>
      rw [accE_get, hgv] at e1
      cases e1
    | some vm =>
    obtain ⟨v0, m0⟩ := vm
    have hz : z ∈ nmL := hA.nm (z, m0) (getA_acc (accE_some hgv))
    have hbt : isNm (.str z) = true := (show ∀ z ∈ nmL, isNm (.str z) = true by decide +kernel) z hz
    rw [hbt] at hbn
    subst hbn
    obtain ⟨z', _, rfl, ez2⟩ := hnm rfl
    injection ez2 with ez2
    subst ez2
    have m22 : Mu H2 [p, lp] := Mu.cons sh2.at_ True.intro (Mu.cons sh2.lp_ True.intro (Mu.nil _))
    have s4 : Same H3 (upd H3 t (.tup [.str "told", .non])) := same_laid ht
    have ht4 : (upd H3 t (.tup [.str "told", .non])) t = some (.tup [.str "told", .non]) := upd_same
    generalize upd H3 t (.tup [.str "told", .non]) = H4 at s4 ht4
    have df4 : DE H4 da fs := (df2.kp kp m22).same s4
    have hgz : DGet H4 da (.str z) (some v0) := by
      have := DGet.k (k := Sum.inr z) df4.at_
      rw [kvE_get, hgv] at this
      exact this
    refine ⟨_, rfl, _, rfl, iteF ⟨_, rfl, _, rfl, da, _, rfl, hgz, _, rfl, iteF ⟨_, rfl, two_le2, fun u hu => ?_⟩⟩⟩
    have su : Same H4 (upd H4 u (.tup [.str "told", .non])) := same_laid hu
    refine ⟨_, _, dp_non (su _ _ ht4), dp_non upd_same, shaped_non (by decide +kernel), shaped_non (by decide +kernel), ?_⟩
    rw [eqv_toldN]
    generalize upd H4 u (.tup [.str "told", .non]) = H5 at su
    have df5 := df4.same su
    have s5 := s4.trans su
    refine ⟨da, .dK (kvE fs), df5.at_, True.intro, fun od => ?_⟩
    have hdo : (upd H5 da (.frz od (.dK (kvE fs)))) da = some (.frz od (.dK (kvE fs))) := upd_same
    refine ⟨_, rfl, da, od, rfl, .inl ⟨kvE fs, hdo, fun M hM => ?_⟩⟩
    generalize hHL : upd H5 da (.frz od (.dK (kvE fs))) = HL at hdo hM
    have oL : ∀ b o, b ≠ da → H5 b = some o → HL b = some o := fun b o n e => by rw [← hHL, upd_ne n]; exact e
    have haM : ∀ b o, HL b = some o → b ≠ M := fun b o e => ne_of_none e hM
    have kvl : (kvE fs).length = fs.length := kvE_len fs
    refine lc_it (n := (kvE fs).length) walk_keys (fun i H' => Same HL H' ∧ ∃ ts : List Addr, H' M = some (.lst (ts.map V.ref)) ∧ Paired (fun (t : Addr) (q : Key × V) => H' t = some (.tup [kV q.1, q.2])) ts (kvE (delA (fs.take i) z))) ⟨same_laid hM, [], upd_same, .nil⟩ (fun i H' _ h => h.1 _ _ hdo) (fun i y H6 H7 hi hP hY => ?_) (fun H6 hP => ?_)
    · obtain ⟨sm, ts, hM6, hpr⟩ := hP
      obtain ⟨rfl, k, v, hkv, rfl⟩ := hY
      rw [kvl] at hi
      have hei : fs[i]? = some fs[i] := List.getElem?_eq_getElem hi
      have hkv2 : (kvE fs)[i]? = some ((Sum.inr fs[i].1 : Key), fs[i].2.1) := by
        unfold kvE
        rw [List.getElem?_map, hei]
        rfl
      rw [hkv2] at hkv
      obtain ⟨rfl, rfl⟩ : (Sum.inr fs[i].1 : Key) = k ∧ fs[i].2.1 = v := ⟨congrArg Prod.fst (Option.some.inj hkv), congrArg Prod.snd (Option.some.inj hkv)⟩
      have hs1 : fs.take (i + 1) = fs.take i ++ [fs[i]] := by rw [List.take_add_one, hei]; rfl
      have hd1 : delA (fs.take (i + 1)) z = delA (fs.take i) z ++ delA [fs[i]] z := by rw [hs1]; exact List.filter_append _ _
      refine ⟨rfl, _, rfl, _, rfl, rfl, _, rfl, ?_⟩
      show (if (!decide (V.str fs[i].1 = V.str z)) = true then _ else _)
      by_cases hez : fs[i].1 = z
      · rw [show (!decide (V.str fs[i].1 = V.str z)) = false from by rw [decide_eq_true (by rw [hez])]; rfl]
        refine iteF ⟨sm, ts, hM6, ?_⟩
        have : delA [fs[i]] z = [] := by
          unfold delA
          rw [List.filter_cons, if_neg (by simpa using hez)]
          rfl
        rw [hd1, this, List.append_nil]
        exact hpr
      · rw [show (!decide (V.str fs[i].1 = V.str z)) = true from by rw [decide_eq_false (fun q => hez (by injection q))]; rfl]
        have hgd : DGet H7 da (.str fs[i].1) (some fs[i].2.1) := by
          have := dget_of (k := Sum.inr fs[i].1) (.inr ⟨od, sm _ _ hdo⟩ : Rd H7 da (.dK (kvE fs)))
          have hg : getA fs fs[i].1 = some fs[i].2 := getA_of hA.ndE (k := fs[i].1) (v := fs[i].2) (List.mem_of_getElem? hei)
          rw [kvE_get, hg] at this
          exact this
        refine iteT ⟨_, rfl, _, rfl, _, rfl, da, _, rfl, hgd, two_le2, fun t2 ht2 => ?_⟩
        have s8 : Same H7 (upd H7 t2 (.tup [kV (Sum.inr fs[i].1), fs[i].2.1])) := same_laid ht2
        have ht8 : (upd H7 t2 (.tup [kV (Sum.inr fs[i].1), fs[i].2.1])) t2 = some (.tup [kV (Sum.inr fs[i].1), fs[i].2.1]) := upd_same
        generalize upd H7 t2 (.tup [kV (Sum.inr fs[i].1), fs[i].2.1]) = H8 at s8 ht8
        have hM8 := s8 _ _ hM6
        have hlen : ts.length ≤ fs.length := by
          rw [hpr.length, kvE_len]
          refine Nat.le_trans (List.length_filter_le _ _) ?_
          rw [List.length_take]
          omega
        have tne : ∀ {b : Addr} {ys : List V}, H8 b = some (.tup ys) → b ≠ M := fun e => ne_of e hM8 (by intro q; cases q)
        refine ⟨_, hM8, by rw [List.length_map, sizeLine_eq]; omega, fun b o e => ?_, ts ++ [t2], ?_, ?_⟩
        · rw [upd_ne (haM b o e)]
          exact s8 _ _ (sm _ _ e)
        · rw [upd_same]
          simp
        · have h1 : delA [fs[i]] z = [fs[i]] := by
            unfold delA
            rw [List.filter_cons, if_pos (by simpa using hez)]
            rfl
          rw [hd1, h1]
          unfold kvE
          rw [List.map_append]
          refine paired_app (L2.Paired.mapP hpr fun t q h => ?_) ?_
          · rw [upd_ne (tne (s8 _ _ h))]
            exact s8 _ _ h
          · rw [upd_ne (tne ht8)]
            exact ht8
    · obtain ⟨sm, ts, hM6, hpr⟩ := hP
      rw [kvl, List.take_length] at hpr
      refine ⟨sm _ _ hdo, ?_⟩
      have s6 : Same H5 (upd H6 da (.dK (kvE fs))) := fun b o e => by
        by_cases hb : b = da
        · rw [hb, upd_same]
          rw [hb, df5.at_] at e
          exact e
        · rw [upd_ne hb]
          exact sm _ _ (oL _ _ hb e)
      have hM7 : (upd H6 da (.dK (kvE fs))) M = some (.lst (ts.map V.ref)) := by
        rw [upd_ne (Ne.symm (haM _ _ hdo))]
        exact hM6
      have hp7 : Paired (fun (t : Addr) (q : Key × V) => (upd H6 da (.dK (kvE fs))) t = some (.tup [kV q.1, q.2])) ts (kvE (delA fs z)) := L2.Paired.mapP hpr fun t q h => by
        rw [upd_ne (ne_of h (sm _ _ hdo) (by intro q; cases q))]
        exact h
      generalize upd H6 da (.dK (kvE fs)) = H7 at s6 hM7 hp7
      refine ⟨M, ts, kvE (delA fs z), rfl, SqL.of hM7, L2.Paired.mapP hp7 fun t kv h => SqT.of h, fun dl hdl => ⟨two_le2, fun u2 hu2 => ?_⟩⟩
      have hAd : AOk (accE (delA fs z)) := by rw [accE_del]; exact hA.del z
      rw [merge_kvE hAd.ndE] at hu2 ⊢
      have s9 : Same H5 (upd (upd H7 dl (.dK (kvE (delA fs z)))) u2 (.tup [.bl true, .ref dl])) := (s6.trans (same_laid hdl)).trans (same_laid hu2)
      refine moved_step (fs' := delA fs z) hmov hB sh hne eN T2 kp (s5.trans s9) h1 (Ne.symm (ne_of_none ((s5.trans s6) _ _ hcu.at_) hdl)) hsh hcu ⟨?_, fun e he => (df5.ok.keep s9.tups) e (List.mem_filter.mp he).1⟩ (by rw [accE_del, accE_del, eac]) hAd upd_same
      rw [upd_ne (ne_of_none upd_same hu2)]
      exact upd_same
end
end T83

set_option Elab.async false
set_option linter.all false
set_option maxRecDepth 100000
set_option maxHeartbeats 2000000
namespace T83
open PySem PySem.Spec PyProof.Rows L2 RZ LamX
def m0A : Mach := ("a", [])
def m0Z : Mach := ("z", [])
def nmV : List V := [.str "a", .str "b", .str "c", .str "try", .str "abcdefgh"]
def nmD : List V := [.str "a", .str "b", .str "c", .str "try", .str "abcdefgh", .str "", .str "A", .str "abcdefghi", .int 1, .non]
/-- a drawn name -/
structure NmX (x : V) (d : PyData) : Prop where
  a : Atm x d
  ok : PyData.strOk d.shown = true
  fl : flatV x = true
  is : inV x nmV = isNm d
  len : ∀ z, d = .str z → z.length ≤ 1000
  nm : isNm d = true → ∃ z ∈ nmL, x = .str z ∧ d = .str z
theorem nmx_str {z : Str} (h : (decide ((PyData.str z).shown.length ≤ 1000) && PyData.strOk (PyData.str z).shown && (inV (.str z) nmV == isNm (.str z)) && decide (z.length ≤ 1000) && (!isNm (.str z) || decide (z ∈ nmL))) = true) : NmX (.str z) (.str z) := by
  simp only [Bool.and_eq_true, decide_eq_true_eq, Bool.or_eq_true, Bool.not_eq_true', beq_iff_eq] at h
  obtain ⟨⟨⟨⟨h1, h2⟩, h3⟩, h4⟩, h5⟩ := h
  refine ⟨.str z h1, h2, rfl, h3, fun z' e => ?_, fun e => ?_⟩
  · cases e
    exact h4
  · rcases h5 with h5 | h5
    · rw [h5] at e
      cases e
    · exact ⟨z, h5, rfl, rfl⟩
theorem nmx_of {x : V} (h : x ∈ nmD) : ∃ d, NmX x d := by
  unfold nmD at h
  simp only [List.mem_cons, List.not_mem_nil, or_false] at h
  rcases h with e | e | e | e | e | e | e | e | e | e <;> rw [e]
  · exact ⟨_, nmx_str (by decide +kernel)⟩
  · exact ⟨_, nmx_str (by decide +kernel)⟩
  · exact ⟨_, nmx_str (by decide +kernel)⟩
  · exact ⟨_, nmx_str (by decide +kernel)⟩
  · exact ⟨_, nmx_str (by decide +kernel)⟩
  · exact ⟨_, nmx_str (by decide +kernel)⟩
  · exact ⟨_, nmx_str (by decide +kernel)⟩
  · exact ⟨_, nmx_str (by decide +kernel)⟩
  · exact ⟨.int 1, atm_int (by decide) (by decide), by decide +kernel, rfl, by decide +kernel, fun z e => (by cases e), fun e => (by cases e)⟩
  · exact ⟨.none, .non, by decide +kernel, rfl, by decide +kernel, fun z e => (by cases e), fun e => (by cases e)⟩
section
variable {P : Program} {w : World} {K : PySem.W.Frag} {mg : Str → Option Value} {base : Heap}
theorem ok_lpd {c Pt : Addr} {T : List (Addr × Str)} (F : Fx K mg) (Ts : Fs K mg) (D : AtC K mg base "_law_put_or_dropped" sLPD c Pt) (hmT : (Pt, ("_law_put_or_dropped.<locals>.<lambda>" : Str)) ∈ T) (hu : ∀ p ∈ T, p.1 = Pt → p.2 = ("_law_put_or_dropped.<locals>.<lambda>" : Str)) (HO : HeardOk P w K mg base)
    (G0 : Cal P w K mg base CX0 1 "_law_scoop" ["bowl", "total"] spScoop) (G1 : Cal P w K mg base CX0 2 "_law_one_of" ["bowl", "items"] spOneOf) (G2 : Cal P w K mg base CX0 4 "_law_machine" ["bowl", "most", "times_v", "price"] spLMach)
    (M1 : CalM P w K mg base (L2.CX P w) 8 "put" ["self", "name", "machine"] (spPut K)) (M2 : CalM P w K mg base (L2.CX P w) 8 "drop" ["self", "name"] (spDrop K)) :
    Cal P w K mg base CX0 12 "_law_put_or_dropped" ["bowl", "shelf", "account"] (spLChanged K T) := by
  refine cal_ofC D scLPD (fun vs H Q E h => ?_) (fun _ _ _ _ _ _ us hl => match us, hl with | [_, _, _], _ => rfl) fun f A outer s H vs Q E hr h => ?_
  · obtain ⟨l, p, da, dx, lp, lf, an, past, cur, fut, es, fs, rfl, _⟩ := h
    rfl
  obtain ⟨tP, hPP, hP⟩ := pd_put (P := P) (w := w) (base := base) (c := c) F Ts D hmT hu HO M1 f A outer s H E hr
  obtain ⟨tD, hPD, hD⟩ := pd_drop (P := P) (w := w) (base := base) (c := c) F Ts D hmT hu HO M2 f A outer s H E hr
  refine ⟨_, PSs.nox (pss_cons (ps_set (i := 3) scLPD.nd rfl (Or.inr rfl) (pe_cal G1 (hr.mono (by decide)) (by rfl) pass0 (pa_cons (pv 0) (pa_cons (pe_lst (pa_cons pe_str (pa_cons pe_str (pa_cons pe_str (pa_cons pe_str (pa_cons pe_str (pa_cons pe_str (pa_cons pe_str (pa_cons pe_str (pa_cons pe_int (pa_cons pe_non pa_nil))))))))))) pa_nil))))
    (pss_cons (ps_set (i := 4) scLPD.nd rfl (Or.inl rfl) (pe_cmpR op_in_seq (pv 3) (pe_tup (pa_cons pe_str (pa_cons pe_str (pa_cons pe_str (pa_cons pe_str (pa_cons pe_str pa_nil)))))) (by rfl)))
    (pss_cons (ps_if (pt_cmpR op_eq (pe_cal G0 (hr.mono (by decide)) (by rfl) pass0 (pa_cons (pv 0) (pa_cons pe_int pa_nil))) pe_int (nomark _)) (by exact hPD) pss_nil)
    (pss_cons (ps_set (i := 7) scLPD.nd rfl (Or.inr rfl) (pe_cal G2 (hr.mono (by decide)) (by rfl) pass0 (pa_cons (pv 0) (pa_cons pe_int (pa_cons pe_int (pa_cons pe_int pa_nil))))))
    (pss_cons (ps_if (pt_cmpR op_eq (pe_cal G0 (hr.mono (by decide)) (by rfl) pass0 (pa_cons (pv 0) (pa_cons pe_int pa_nil))) pe_int (nomark _)) (pss_one (ps_set (i := 7) scLPD.nd rfl (Or.inr rfl) (pe_cal G1 (hr.mono (by decide)) (by rfl) pass0 (pa_cons (pv 0) (pa_cons (pe_lst (pa_cons pe_non (pa_cons (pe_tup (pa_cons pe_str (pa_cons (pe_tup pa_nil) pa_nil))) (pa_cons (pe_tup (pa_cons pe_str (pa_cons (pe_tup pa_nil) pa_nil))) pa_nil)))) pa_nil))))) pss_nil)
    (by exact hPP)))))), ?_⟩
  obtain ⟨l, p, da, dx, lp, lf, an, past, cur, fut, es, fs, rfl, hB, hT, sh, de, df, eac, hA, hpl, hne, hne2, hmov⟩ := h
  have plp : p ≠ l := bowl_ne hB sh.at_ (fun xs z => by cases z)
  have anl : an ≠ l := bowl_ne hB sh.an_ (fun xs z => by cases z)
  have mB : Mu H [l] := hB.mu
  refine ⟨_, rfl, ?_⟩
  refine ⟨by show 10 ≤ sizeLine; rw [sizeLine_eq]; decide, fun a ha => ?_⟩
  have hal : a ≠ l := fun z => hB.ne (z ▸ ha)
  have s1 : Same H (upd H a (.lst nmD)) := same_laid ha
  refine ⟨l, _, rfl, hB.same s1, .inr ⟨a, nmD, rfl, upd_same, hal, by decide, by decide, fun x H1 hx k1 hB1 => ?_⟩⟩
  have kA : Kp [l] H H1 := (Kp.of s1).trans k1
  clear k1 s1 hal ha
  obtain ⟨d, hX⟩ := nmx_of hx
  refine ⟨_, rfl, ?_⟩
  refine ⟨by show 5 ≤ sizeLine; rw [sizeLine_eq]; decide, fun q hq => ?_⟩
  have s2 : Same H1 (upd H1 q (.tup nmV)) := same_laid hq
  refine ⟨q, nmV, rfl, .inr (SqT.of upd_same), hX.fl, rfl, ?_⟩
  have hB2 := hB1.same s2
  have k2 : Kp [l] H (upd H1 q (.tup nmV)) := kA.trans (Kp.of s2)
  show tSeq _ _ _ [some (.ref l), some (.ref p), some (.ref da), some x, some (.bl (inV x nmV)), none, none, none] (upd H1 q (.tup nmV))
  rw [hX.is]
  generalize upd H1 q (.tup nmV) = H2 at hB2 k2
  have sh2 : ∀ H', Kp [l] H H' → Shf K H' p dx lp lf an past cur fut := fun H' k => sh.kt k.kt (by simpa using plp) (by simpa using Ne.symm hne) (by simpa using Ne.symm hne2) (by simpa using anl)
  refine ⟨_, rfl, l, 3, rfl, by decide, by decide, hB2, fun r3 H3 hr3 k3 hB3 => ⟨rfl, _, rfl, ?_⟩⟩
  have k3' : Kp [l] H H3 := k2.trans k3
  by_cases h0 : r3 = 0
  · rw [decide_eq_true (by rw [h0]; rfl)]
    refine iteT (hD l p da dx lp lf an cur past fut es fs x (isNm d) d H3 Q _ hB3 (k3'.tabs mB hT) (sh2 H3 k3') (de.kp k3' mB) (df.kp k3' mB) eac hA hpl hne hX.a hX.ok rfl hX.nm (hmov.kp k3' hB3))
  rw [decide_eq_false (fun z => h0 (by injection z with z; omega))]
  refine iteF ⟨_, rfl, l, rfl, hB3, fun H4 v m k4 hB4 hv hm => ?_⟩
  have k4' : Kp [l] H H4 := k3'.trans k4
  refine ⟨_, rfl, l, 5, rfl, by decide, by decide, hB4, fun r5 H5 hr5 k5 hB5 => ⟨rfl, _, rfl, ?_⟩⟩
  have k5' : Kp [l] H H5 := k4'.trans k5
  have fin : ∀ (H6 : Hp) (y : V) (om : Option Mach), Kp [l] H H6 → Bowl H6 l → MX H6 y om → (∀ m, om = some m → okM m = true ∨ (okM m = false ∧ m.2 = [])) → tP { nx := fun _ H' => Q .non H', rt := Q } [some (.ref l), some (.ref p), some (.ref da), some x, some (.bl (isNm d)), none, none, some y] H6 := fun H6 y om k hB6 hM hom =>
    hP l p da dx lp lf an cur past fut es fs x y (isNm d) d none om H6 Q hB6 (k.tabs mB hT) (sh2 H6 k) (de.kp k mB) (df.kp k mB) eac hA hpl hne hX.a hX.len rfl hX.nm hM hom (hmov.kp k hB6)
  have hv5 : Tp H5 v (dM m) := hv.keep (hB4.tups k5)
  by_cases h5 : r5 = 0
  · rw [decide_eq_true (by rw [h5]; rfl)]
    refine iteT ⟨_, rfl, ?_⟩
    refine ⟨by show 0 ≤ sizeLine; rw [sizeLine_eq]; decide, fun e1 he1 => ⟨two_le2, fun a1 ha1 => ⟨by show 0 ≤ sizeLine; rw [sizeLine_eq]; decide, fun e2 he2 => ⟨two_le2, fun a2 ha2 => ⟨by show 3 ≤ sizeLine; rw [sizeLine_eq]; decide, fun q hq => ?_⟩⟩⟩⟩⟩
    have t1 : Same H5 (upd H5 e1 (.tup [])) := same_laid he1
    have he1' : (upd H5 e1 (.tup [])) e1 = some (.tup []) := upd_same
    generalize upd H5 e1 (.tup []) = J1 at t1 he1' ha1 he2 ha2 hq
    have t2 : Same J1 (upd J1 a1 (.tup [.str "a", .ref e1])) := same_laid ha1
    have ha1' : (upd J1 a1 (.tup [.str "a", .ref e1])) a1 = some (.tup [.str "a", .ref e1]) := upd_same
    generalize upd J1 a1 (.tup [.str "a", .ref e1]) = J2 at t2 ha1' he2 ha2 hq
    have t3 : Same J2 (upd J2 e2 (.tup [])) := same_laid he2
    have he2' : (upd J2 e2 (.tup [])) e2 = some (.tup []) := upd_same
    generalize upd J2 e2 (.tup []) = J3 at t3 he2' ha2 hq
    have t4 : Same J3 (upd J3 a2 (.tup [.str "z", .ref e2])) := same_laid ha2
    have ha2' : (upd J3 a2 (.tup [.str "z", .ref e2])) a2 = some (.tup [.str "z", .ref e2]) := upd_same
    generalize upd J3 a2 (.tup [.str "z", .ref e2]) = J4 at t4 ha2' hq
    have t5 : Same J4 (upd J4 q (.lst [.non, .ref a1, .ref a2])) := same_laid hq
    have tA : Same H5 (upd J4 q (.lst [.non, .ref a1, .ref a2])) := (((t1.trans t2).trans t3).trans t4).trans t5
    have hql : q ≠ l := fun z => (hB5.same (((t1.trans t2).trans t3).trans t4)).ne (z ▸ hq)
    have hm1 : Tp (upd J4 q (.lst [.non, .ref a1, .ref a2])) (.ref a1) (dM ("a", [])) := .tup ((t3.trans (t4.trans t5)) _ _ ha1') (.cons (.str _) (.cons (.tup ((t2.trans (t3.trans (t4.trans t5))) _ _ he1') .nil) .nil))
    have hm2 : Tp (upd J4 q (.lst [.non, .ref a1, .ref a2])) (.ref a2) (dM ("z", [])) := .tup (t5 _ _ ha2') (.cons (.str _) (.cons (.tup ((t4.trans t5) _ _ he2') .nil) .nil))
    refine ⟨l, _, rfl, hB5.same tA, .inr ⟨q, [.non, .ref a1, .ref a2], rfl, upd_same, hql, by simp, by simp, fun y H6 hy k6 hB6 => ?_⟩⟩
    have k6' : Kp [l] H H6 := (k5'.trans (Kp.of tA)).trans k6
    have tk6 := (hB5.same tA).tups k6
    have sml : ∀ z : Str, z.length ≤ 1000 → Sml (z, []) := fun z hz => ⟨hz, by show 0 ≤ 1000; decide, fun r hr => by cases hr⟩
    simp only [List.mem_cons, List.not_mem_nil, or_false] at hy
    rcases hy with e | e | e <;> rw [e]
    · exact fin H6 .non none k6' hB6 .non fun m e => by cases e
    · exact fin H6 (.ref a1) (some ("a", [])) k6' hB6 (.m (hm1.keep tk6) (sml _ (by decide +kernel))) fun m e => by cases e; exact .inr ⟨by decide +kernel, rfl⟩
    · exact fin H6 (.ref a2) (some ("z", [])) k6' hB6 (.m (hm2.keep tk6) (sml _ (by decide +kernel))) fun m e => by cases e; exact .inr ⟨by decide +kernel, rfl⟩
  · rw [decide_eq_false (fun z => h5 (by injection z with z; omega))]
    exact iteF (fin H5 v (some m) k5' hB5 (.m hv5 (okM_sml hm)) fun m' e => by cases e; exact .inl hm)
end
end T83

set_option Elab.async false
set_option linter.all false
set_option maxRecDepth 100000
set_option maxHeartbeats 2000000
namespace T83
open PySem PySem.Spec PyProof.Rows L2 RZ LamX
theorem sht_M {m : Mach} (h : okM m = true) : ShT (dM m) := by
  have h1 := sw_M h
  have h2 := rows_lay m.2
  have hl : (dM m).canLay0 = true := by
    obtain ⟨_, _, h3, _⟩ := okM_of h
    have hs : PyData.strOk m.1 = true := by
      unfold PyData.strOk
      rw [← Array.all_toList]
      refine List.all_eq_true.mpr fun c hc => ?_
      unfold isLet at h3
      have h2 := of_decide_eq_true (List.all_eq_true.mp h3 c hc)
      have e3 : (Str.ofString "abcdefghijkl").cps.toList = [97, 98, 99, 100, 101, 102, 103, 104, 105, 106, 107, 108] := by decide +kernel
      rw [e3] at h2
      simp only [List.mem_cons, List.not_mem_nil, or_false] at h2
      exact decide_eq_true (by omega)
    unfold dM
    rw [PyData.canLay0, PyData.canLayAll0, PyData.canLayAll0, PyData.canLayAll0, PyData.canLay0, PyData.canLay0, hs, h2.1]
    rfl
  refine ⟨h1.1, PyData.hasDict_of_canLay _ hl, ?_, Nat.le_trans h1.2 (by rw [sizeLine_eq]; decide)⟩
  unfold dM
  rw [PyData.depth, PyData.depthAll, PyData.depthAll, PyData.depthAll, PyData.depth, PyData.depth]
  have := h2.2
  omega
theorem strs_shaped {ys : List Str} (h : ∀ y ∈ ys, PyData.strOk y = true) : SeqAt.shaped (.tuple (ys.map PyData.str)) = true := by
  have : PyData.canLayAll0 (ys.map PyData.str) = true ∧ PyData.depthAll (ys.map PyData.str) = 0 := by
    induction ys with
    | nil => exact ⟨rfl, rfl⟩
    | cons y ys ih =>
      obtain ⟨a, b⟩ := ih fun z hz => h z (List.mem_cons_of_mem _ hz)
      rw [List.map_cons, PyData.canLayAll0, PyData.depthAll, a, b, PyData.canLay0, h y List.mem_cons_self]
      exact ⟨rfl, rfl⟩
  unfold SeqAt.shaped
  rw [PyData.canLay0, this.1, PyData.depth, this.2]
  rfl
theorem eqv_strs : ∀ ys : List Str, PyData.eqv (.tuple (ys.map PyData.str)) (.tuple (ys.map PyData.str)) = true
  | [] => by rw [PyData.eqv]; rfl
  | y :: ys => by
    have := eqv_strs ys
    rw [PyData.eqv] at this ⊢
    rw [List.map_cons, PyData.eqvAll, PyData.eqv, beq_self_eq_true, this]
    rfl
section
variable {P : Program} {w : World} {K : PySem.W.Frag} {mg : Str → Option Value} {base : Heap}
def rReprD (K : PySem.W.Frag) : List V → Hp → VK → Prop := fun xs H Q => ∃ a d, xs = [V.ref a] ∧ Dp K H (.ref a) d ∧ d.showable = true ∧ d.hasDict = false ∧ d.depth ≤ 62 ∧ d.shown.length ≤ sizeLine ∧ Q (.str d.shown) H
theorem cr_reprD {X : Cx} (gA : X.A.guards = some []) (hu : X.A.units + 64 < cLine) : CallR X (.builtin "repr") (rReprD X.K) := call_reprD gA hu
theorem passNo {X : Cx} : Passes (L2.CX X.prog X.w) X L2.E0 := fun _ _ _ _ _ _ _ h => by
  obtain ⟨_, _, _, _, _, _, _, _, _, _, _, _, e⟩ := h
  exact e.elim
/-! ### _law_same -/
abbrev sLSame : Stmt := top 120
abbrev nLSame : List Str := ["shelf", "account", "times_v", "name"]
theorem scLSame : FnScope nLSame ["shelf", "account", "times_v"] (defScope sLSame) := ⟨rfl, rfl, rfl, by decide +kernel, rfl, by decide +kernel, by decide +kernel⟩
def spLSame (K : PySem.W.Frag) : Sp := fun vs H Q _ => ∃ p da dx lp lf an past cur fut es fs, vs = [.ref p, .ref da, .int ((past.length : Nat) : Int)] ∧ Shf K H p dx lp lf an past cur fut ∧ DE H cur es ∧ DE H da fs ∧ accE es = accE fs ∧ AOk (accE fs) ∧ past.length ≤ 1000 ∧ da ≠ cur ∧ ∀ H', Same H H' → Q (.bl true) H'
theorem ok_lsame (F : Fx K mg) (Ts : Fs K mg) (D : At K mg "_law_same" sLSame) (PN : ∃ p g fd, PropOf K (aS K) "names" p g ∧ Binds K fd ["self"] [] ∧ FnOk P w K mg base CX0 1 g fd ["self"] (spNames K))
    (ML : CalM P w K mg base CX0 1 "__len__" ["self"] (spLen K)) (MH : CalM P w K mg base CX0 1 "__contains__" ["self", "name"] (spHas K)) (MS : CalM P w K mg base CX0 1 "__str__" ["self"] (spStrS K)) (MM : CalM P w K mg base (L2.CX P w) 3 "machine" ["self", "name"] (spMachine K)) :
    CalG P w K mg base CX0 4 "_law_same" ["shelf", "account", "times_v"] (spLSame K) := by
  obtain ⟨pp, gp, fdp, MP, BP, FP⟩ := PN
  refine calG_of D scLSame (fun vs H Q E h => ?_) (fun _ _ _ _ _ _ us hl => match us, hl with | [_, _, _], _ => rfl) fun f cdv A outer s H vs Q E gA hr h => ⟨_, PSs.nox (pss_cons (ps_if (pw_or (pt_cmpR (op_neD hr.units) (pe_prop (pv 0) Ts.cl MP FP (hr.mono (by decide)) BP .nil pass0 rfl) (pe_callTy call_tuple_of (by rfl) (F.b "tuple" (by decide)) (by decide +kernel) (pa_cons (pe_callB (call_sortedD rfl) (by rfl) (F.b "sorted" (by decide)) (by decide +kernel) (pa_cons (pv 1) pa_nil)) pa_nil)) (nomark _))
      (pw_or (pt_cmpR op_ne (pe_callB (cr_lenO (CalM.spc ML) (hr.mono (by decide))) (by rfl) (F.b "len" (by decide)) boot_len (pa_cons (pv 0) pa_nil)) (pe_callB call_lenD (by rfl) (F.b "len" (by decide)) boot_len (pa_cons (pv 1) pa_nil)) (nomark _))
      (pw_or (pt_cmpR (op_inO (CalM.spc MH) (hr.mono (by decide))) pe_str (pv 0) (by rfl)) (pw_or1 (pt_cmpR (op_inO (CalM.spc MH) (hr.mono (by decide))) pe_int (pv 0) (by rfl)))))).pt (pss_one (ps_ret pe_bl)) pss_nil)
    (pss_cons (ps_if (pt_cmpR op_ne (pe_callTy (cr_strO (CalM.spc MS) hr) (by rfl) (F.b "str" (by decide)) (by decide +kernel) (pa_cons (pv 0) pa_nil)) (pe_op op_add_str (pe_op op_add_str (pe_op op_add_str (pe_op op_add_str pe_str (pe_callTy call_str_int (by rfl) (F.b "str" (by decide)) (by decide +kernel) (pa_cons (pe_callB call_lenD (by rfl) (F.b "len" (by decide)) boot_len (pa_cons (pv 1) pa_nil)) pa_nil))) pe_str) (pe_callTy call_str_int (by rfl) (F.b "str" (by decide)) (by decide +kernel) (pa_cons (pv 2) pa_nil))) pe_str) (nomark _)) (pss_one (ps_ret pe_bl)) pss_nil)
    (pss_one (ps_ret (pe_cmpR (op_eqD hr.units) (pe_lock (pe_lc (own := [("name", 3)]) (g := gName 3) rfl scLSame.nd (pi_keys (pv 1)) (blkOk_by (N := nLSame) (sc := defScope sLSame) (by decide +kernel))
        (fun _ _ _ _ _ => pg_name (i := 3) scLSame.nd rfl (Or.inl rfl)) (fun _ _ _ _ _ => pts_one (pw_or (pt_cmpR (show OpR _ (compareOp .NotIn) (rOwnIn (aS K) (spHas K) true) from op_notInO (CalM.spc MH) (hr.mono (by decide))) (pv 3) (pv 0) (by rfl)) (pw_or1 (pt_cmpR op_ne (pe_callB (show CallR _ (.builtin "repr") (rReprD K) from cr_reprD gA hr.units) (by rfl) (F.b "repr" (by decide)) (by decide +kernel) (pa_cons (show PE _ _ (tMeth (aS K) "machine" (spMachine K) [] L2.E0 (tVar 0) (tCons (tVar 3) tNil)) from pe_calm Ts.cl MM hr passNo (pv 0) (pa_cons (pv 3) pa_nil)) pa_nil)) (pe_callB (show CallR _ (.builtin "repr") (rReprD K) from cr_reprD gA hr.units) (by rfl) (F.b "repr" (by decide)) (by decide +kernel) (pa_cons (pe_dget (hu_of hr) (pv 1) (pv 3) (fun _ _ => rfl)) pa_nil)) (nomark _)))).pt)
        (fun _ _ _ _ _ => pv 3))) (pe_lst pa_nil) (nomark _)))))), ?_⟩
  · obtain ⟨p, da, dx, lp, lf, an, past, cur, fut, es, fs, rfl, _⟩ := h
    rfl
  · obtain ⟨p, da, dx, lp, lf, an, past, cur, fut, es, fs, rfl, sh, de, df, eac, hA, hpl, hdc, hq⟩ := h
    have hfl : fs.length ≤ 5 := by
      have := hA.len
      rw [accE_len] at this
      exact this
    have hel : es.length = fs.length := by
      have := congrArg List.length eac
      rw [accE_len, accE_len] at this
      exact this
    have ekeys : es.map (·.1) = fs.map (·.1) := by
      have := congrArg (List.map (·.1)) eac
      unfold accE at this
      rw [List.map_map, List.map_map] at this
      exact this
    refine ⟨_, rfl, p, dx, _, rfl, sh.at_, p, dx, cur, lp, lf, an, es, rfl, sh.at_, de, by omega, fun H1 v ys s1 hyp hys hv => ?_⟩
    refine ⟨_, rfl, da, kvE fs, fs.map (·.1), rfl, .inl (s1 _ _ df.at_), by simp [kvE, Function.comp_def], by rw [List.length_map]; omega, fun zs L hzp hzs hL => ⟨L, _, rfl, .inl ⟨SqL.of upd_same, fun U hU => ?_⟩⟩⟩
    obtain rfl : ys = zs := sortedS_one (hyp.trans (by rw [ekeys]; exact hzp.symm)) hys hzs
    have s2 : Same H1 (upd H1 L (.lst (ys.map V.str))) := same_laid hL
    generalize upd H1 L (.lst (ys.map V.str)) = H2 at s2 hU
    have s3 : Same H2 (upd H2 U (.tup (ys.map V.str))) := same_laid hU
    have hU3 : (upd H2 U (.tup (ys.map V.str))) U = some (.tup (ys.map V.str)) := upd_same
    generalize upd H2 U (.tup (ys.map V.str)) = H3 at s3 hU3
    have s13 := s2.trans s3
    have sA := s1.trans s13
    have hst : SeqAt.shaped (.tuple (ys.map PyData.str)) = true := strs_shaped fun y hy => by
      obtain ⟨e, he, rfl⟩ := List.mem_map.mp (hzp.mem_iff.mp hy)
      exact (show ∀ z ∈ nmL, PyData.strOk z = true by decide +kernel) _ (hA.nm (e.1, e.2.2) (List.mem_map.mpr ⟨e, he, rfl⟩))
    refine ⟨_, _, (hv.keep s13.tups).dp, .tup (SqT.of hU3) (TpAll.dp (strs_tp ys)), hst, hst, _, rfl, ?_⟩
    rw [eqv_strs]
    have sh3 := sh.same sA
    have de3 := de.same sA
    have df3 := df.same sA
    refine iteF ⟨_, rfl, p, dx, _, rfl, sh3.at_, p, dx, cur, lp, lf, an, kvE es, rfl, sh3.at_, de3.at_, _, rfl, by omega, by rw [kvE_len]; omega, ?_⟩
    refine ⟨_, rfl, da, kvE fs, rfl, df3.at_, rfl, ?_⟩
    have hAe : AOk (accE es) := by rw [eac]; exact hA
    have hzz : hasN (accE es) (.str "zz") = false := by
      show (getA (accE es) "zz").isSome = false
      cases e : getA (accE es) "zz" with
      | none => rfl
      | some m => exact absurd (hAe.nm ("zz", m) (getA_acc e)) (show ("zz" : Str) ∉ nmL by decide +kernel)
    refine ⟨_, rfl, ?_⟩
    rw [show (!decide (V.int (((kvE es).length : Nat) : Int) = V.int (((kvE fs).length : Nat) : Int))) = false from by rw [kvE_len, kvE_len, hel, decide_eq_true rfl]; rfl]
    refine iteF ⟨_, rfl, p, dx, _, rfl, sh3.at_, p, dx, cur, lp, lf, an, es, .str "zz", .str "zz", rfl, sh3.at_, de3, .tp (.str _), _, rfl, _, rfl, ?_⟩
    rw [hzz]
    refine iteF ⟨_, rfl, p, dx, _, rfl, sh3.at_, p, dx, cur, lp, lf, an, es, .int 5, .int 5, rfl, sh3.at_, de3, .tp (.int _), _, rfl, _, rfl, ?_⟩
    refine iteF ?_
    -- str
    refine ⟨_, rfl, p, dx, _, rfl, sh3.at_, p, dx, cur, lp, lf, an, kvE es, past.map V.ref, rfl, sh3.at_, de3.at_, by rw [kvE_len]; omega, sh3.lp_, by rw [List.length_map]; exact hpl, _, rfl, ?_⟩
    have c0 : ("shelf of " : Str).length = 9 := by decide +kernel
    have c1 : (" machines, " : Str).length = 11 := by decide +kernel
    have c2 : (" steps" : Str).length = 6 := by decide +kernel
    have t1 := tx_small fs.length (by omega)
    have t2 := tx_small past.length (by omega)
    have e0 : Str.empty ++ ("shelf of " : Str) = "shelf of " := by decide +kernel
    have l1 : (kvE fs).length = fs.length := kvE_len fs
    have l2 : (kvE es).length = fs.length := (kvE_len es).trans hel
    have l3 : (past.map V.ref).length = past.length := List.length_map _
    refine ⟨_, rfl, da, kvE fs, rfl, df3.at_, _, rfl, by rw [l1]; exact tx_log (by omega), ?_⟩
    rw [l1, l2, l3]
    refine ⟨_, _, rfl, rfl, by rw [c0, sizeLine_eq]; omega, _, _, rfl, rfl, by rw [strLen_append, c0, c1, sizeLine_eq]; omega, _, rfl, _, rfl, tx_log hpl, _, _, rfl, rfl, by rw [strLen_append, strLen_append, c0, c1, sizeLine_eq]; omega, _, _, rfl, rfl, by rw [strLen_append, strLen_append, strLen_append, c0, c1, c2, sizeLine_eq]; omega, rfl, _, rfl, ?_⟩
    have etx : txS ((fs.length : Nat) : Int) ((past.length : Nat) : Int) = ("shelf of " : Str) ++ (toString ((fs.length : Nat) : Int) : Str) ++ " machines, " ++ (toString ((past.length : Nat) : Int) : Str) ++ " steps" := by
      unfold txS
      rw [e0]
    rw [show ∀ z : Str, z = ("shelf of " : Str) ++ (toString ((fs.length : Nat) : Int) : Str) ++ " machines, " ++ (toString ((past.length : Nat) : Int) : Str) ++ " steps" → (!decide (V.str (txS ((fs.length : Nat) : Int) ((past.length : Nat) : Int)) = V.str z)) = false from fun z hz => by rw [hz, etx, decide_eq_true rfl]; rfl]
    case a => rfl
    refine iteF ?_
    -- the machines
    refine ⟨da, .dK (kvE fs), df3.at_, True.intro, fun od => ?_⟩
    have hdo : (upd H3 da (.frz od (.dK (kvE fs)))) da = some (.frz od (.dK (kvE fs))) := upd_same
    refine ⟨_, rfl, da, od, rfl, .inl ⟨kvE fs, hdo, fun M hM => ?_⟩⟩
    generalize hHL : upd H3 da (.frz od (.dK (kvE fs))) = HL at hdo hM
    have oL : ∀ b o, b ≠ da → H3 b = some o → HL b = some o := fun b o n e => by rw [← hHL, upd_ne n]; exact e
    have haM : ∀ b o, HL b = some o → b ≠ M := fun b o e => ne_of_none e hM
    have pda : p ≠ da := ne_of sh3.at_ df3.at_ (by intro z; cases z)
    have pL := oL _ _ pda sh3.at_
    have tkL : TupK H3 HL := by
      rw [← hHL]
      exact tk_upd df3.at_ id
    have deL : DE HL cur es := ⟨oL _ _ (Ne.symm hdc) de3.at_, de3.ok.keep tkL⟩
    have okfL : EOk HL fs := df3.ok.keep tkL
    have kvl : (kvE fs).length = fs.length := kvE_len fs
    refine lc_it (n := (kvE fs).length) walk_keys (fun i H' => Same HL H' ∧ H' M = some (.lst [])) ⟨same_laid hM, upd_same⟩ (fun i H' _ h => h.1 _ _ hdo) (fun i y H6 H7 hi hP hY => ?_) (fun H6 hP => ?_)
    · obtain ⟨sm, hM6⟩ := hP
      obtain ⟨rfl, k, v, hkv, rfl⟩ := hY
      rw [kvl] at hi
      have hei : fs[i]? = some fs[i] := List.getElem?_eq_getElem hi
      have hkv2 : (kvE fs)[i]? = some ((Sum.inr fs[i].1 : Key), fs[i].2.1) := by
        unfold kvE
        rw [List.getElem?_map, hei]
        rfl
      rw [hkv2] at hkv
      obtain ⟨rfl, rfl⟩ : (Sum.inr fs[i].1 : Key) = k ∧ fs[i].2.1 = v := ⟨congrArg Prod.fst (Option.some.inj hkv), congrArg Prod.snd (Option.some.inj hkv)⟩
      have hgf : getA fs fs[i].1 = some fs[i].2 := getA_of hA.ndE (k := fs[i].1) (v := fs[i].2) (List.mem_of_getElem? hei)
      have hga : getA (accE es) fs[i].1 = some fs[i].2.2 := by rw [eac, accE_get, hgf]; rfl
      have hokm : okM fs[i].2.2 = true := hAe.ok _ (getA_acc hga)
      have hgd : DGet H7 da (.str fs[i].1) (some fs[i].2.1) := by
        have := dget_of (k := Sum.inr fs[i].1) (.inr ⟨od, sm _ _ hdo⟩ : Rd H7 da (.dK (kvE fs)))
        rw [kvE_get, hgf] at this
        exact this
      have p7 := sm _ _ pL
      have de7 := deL.same sm
      have hh : hasN (accE es) (.str fs[i].1) = true := by
        show (getA (accE es) fs[i].1).isSome = true
        rw [hga]
        rfl
      refine ⟨rfl, _, rfl, _, rfl, p, dx, _, rfl, p7, p, dx, cur, lp, lf, an, es, .str fs[i].1, .str fs[i].1, rfl, p7, de7, .tp (.str _), _, rfl, _, rfl, ?_⟩
      rw [hh]
      have hsh := sht_M hokm
      obtain ⟨b2, eb2⟩ := (okfL fs[i] (List.getElem_mem hi)).1
      have hT2 : Tp H7 (.ref b2) (dM fs[i].2.2) := by
        have := ((okfL fs[i] (List.getElem_mem hi)).2).keep sm.tups
        rw [eb2] at this
        exact this
      refine iteF ⟨_, rfl, p, dx, _, rfl, p7, rfl, _, rfl, p, dx, cur, lp, lf, an, es, .str fs[i].1, .str fs[i].1, rfl, p7, de7, .tp (.str _), fun z m v0 ez ev => ?_, fun e => by rw [hh] at e; cases e⟩
      cases ez
      have em : m = fs[i].2.2 := by
        have := accE_some ev
        rw [hga] at this
        exact (Option.some.inj this).symm
      subst em
      have hmem := getA_mem ev
      obtain ⟨⟨b1, eb1⟩, hT1⟩ := de7.ok _ hmem
      have eb1 : v0 = V.ref b1 := eb1
      subst eb1
      refine ⟨b1, _, rfl, hT1.dp, hsh.s, hsh.n, hsh.dep, hsh.l, _, rfl, _, rfl, da, _, rfl, hgd, b2, dM fs[i].2.2, by rw [eb2], hT2.dp, hsh.s, hsh.n, hsh.dep, hsh.l, rfl, _, rfl, ?_⟩
      rw [show (!decide (V.str (dM fs[i].2.2).shown = V.str (dM fs[i].2.2).shown)) = false from by rw [decide_eq_true rfl]; rfl]
      exact iteF ⟨sm, hM6⟩
    · obtain ⟨sm, hM6⟩ := hP
      refine ⟨sm _ _ hdo, ?_⟩
      have s6 : Same H3 (upd H6 da (.dK (kvE fs))) := fun b o e => by
        by_cases hb : b = da
        · rw [hb, upd_same]
          rw [hb, df3.at_] at e
          exact e
        · rw [upd_ne hb]
          exact sm _ _ (oL _ _ hb e)
      have hM7 : (upd H6 da (.dK (kvE fs))) M = some (.lst []) := by
        rw [upd_ne (Ne.symm (haM _ _ hdo))]
        exact hM6
      generalize upd H6 da (.dK (kvE fs)) = H7 at s6 hM7
      refine ⟨by show 0 ≤ sizeLine; rw [sizeLine_eq]; decide, fun e0 he0 => ?_⟩
      have s8 : Same H7 (upd H7 e0 (.lst [])) := same_laid he0
      refine ⟨.list [], .list [], .lst (SqL.of (s8 _ _ hM7)) .nil, .lst (SqL.of upd_same) .nil, by decide +kernel, by decide +kernel, ?_⟩
      exact hq _ ((sA.trans s6).trans s8)
end
end T83

set_option Elab.async false
set_option linter.all false
set_option maxRecDepth 100000
set_option maxHeartbeats 4000000
namespace T83
open PySem PySem.Spec PyProof.Rows L2 RZ LamX
def forB : List Stmt → List Stmt
  | .For _ _ b _ _ :: _ => b
  | _ => []
def elsB : List Stmt → List Stmt
  | .If _ _ b _ :: _ => b
  | _ => []
section
variable {P : Program} {w : World} {K : PySem.W.Frag} {mg : Str → Option Value} {base : Heap}
/-! ### _law_right -/
abbrev sLRight : Stmt := top 121
abbrev nLRight : List Str := ["bowl", "shelf", "rows", "undone", "turn", "way", "is_so", "later", "steps", "far", "told", "step", "twin"]
theorem scLRight : FnScope nLRight ["bowl"] (defScope sLRight) := ⟨rfl, rfl, rfl, by decide +kernel, rfl, by decide +kernel, by decide +kernel⟩
abbrev xLRight (P : Program) (w : World) (K : PySem.W.Frag) (mg : Str → Option Value) (base : Heap) (f c : Addr) (A : Around) (outer : List Env) (s : Shared) (H : Hp) (E : XK) : Cx := (cxOf CX0 P w K mg base nLRight "_law_right" (defScope sLRight) f (.ref c) A outer s H E).nox
/-! one level: the shelf's dict, the account -/
def Lv (H : Hp) (a d : Addr) : Prop := ∃ es fs, DE H a es ∧ DE H d fs ∧ accE es = accE fs ∧ AOk (accE fs) ∧ d ≠ a
theorem Lv.kt {S : List Addr} {H H' : Hp} {a d : Addr} (h : Lv H a d) (k : Kt S H H') (m : Mu H S) : Lv H' a d := by
  obtain ⟨es, fs, h1, h2, h3, h4, h5⟩ := h
  exact ⟨es, fs, h1.kt k m, h2.kt k m, h3, h4, h5⟩
/-- how things stand after n turns -/
structure RS (K : PySem.W.Frag) (T : List (Addr × Str)) (H0 H : Hp) (l p dx lp lf an : Addr) (past : List Addr) (cur : Addr) (fut : List Addr) (rl ul : Addr) (rds : List Addr) (rd : Addr) (uds : List Addr) (n : Nat) : Prop where
  bowl : Bowl H l
  tabs : Tabs T H
  shf : Shf K H p dx lp lf an past cur fut
  rows : H rl = some (.lst ((rds ++ [rd]).map V.ref))
  und : H ul = some (.lst (uds.map V.ref))
  lvP : Paired (Lv H) past rds
  lvC : Lv H cur rd
  lvF : Paired (Lv H) fut uds
  len : past.length + fut.length ≤ n
  few : n ≤ 40
  n1 : l ≠ rl
  n2 : l ≠ ul
  n3 : rl ≠ ul
  n4 : l ≠ lp
  n5 : l ≠ lf
  n6 : rl ≠ lp
  n7 : rl ≠ lf
  n8 : ul ≠ lp
  n9 : ul ≠ lf
  kt : Kt [l] H0 H
  w1 : NewN H0 p
  w2 : NewN H0 rl
  w3 : NewN H0 ul
  w4 : NewN H0 lp
  w5 : NewN H0 lf
/-! keeping it -/
theorem paired_imp {α β : Type} {F G : α → β → Prop} {xs : List α} {ys : List β} (h : Paired F xs ys) (f : ∀ a b, F a b → G a b) : Paired G xs ys := L2.Paired.mapP h f
theorem newN_of {H0 H : Hp} {l b : Addr} (k : Kt [l] H0 H) (hB : Bowl H l) (h : NewN H b) : NewN H0 b := fun o ho => Classical.byContradiction fun n => by
  have nt : ∀ ps, o ≠ .tbl ps := fun ps z => n ⟨ps, z⟩
  by_cases z : b = l
  · obtain ⟨x, y, w, hb⟩ := hB
    rw [z] at h
    obtain ⟨ps, q⟩ := h _ hb
    cases q
  · obtain ⟨ps, q⟩ := h o (k b o ho (by simpa using z) nt)
    exact nt ps q
theorem newN_none {H : Hp} {b : Addr} (h : H b = none) : NewN H b := fun o ho => by
  rw [h] at ho
  cases ho
theorem RS.same {T : List (Addr × Str)} {H0 H H' : Hp} {l p dx lp lf an cur rl ul rd : Addr} {past fut rds uds : List Addr} {n : Nat} (h : RS K T H0 H l p dx lp lf an past cur fut rl ul rds rd uds n) (k : Same H H') : RS K T H0 H' l p dx lp lf an past cur fut rl ul rds rd uds n :=
  { h with
    bowl := h.bowl.same k
    tabs := (Kp.of k : Kp [] H H').tabs (Mu.nil _) h.tabs
    shf := h.shf.same k
    rows := k _ _ h.rows
    und := k _ _ h.und
    lvP := paired_imp h.lvP fun _ _ q => q.kt (Kp.of k : Kp [] H H').kt (Mu.nil _)
    lvC := h.lvC.kt (Kp.of k : Kp [] H H').kt (Mu.nil _)
    lvF := paired_imp h.lvF fun _ _ q => q.kt (Kp.of k : Kp [] H H').kt (Mu.nil _)
    kt := h.kt.trans (Kp.of k).kt }
theorem RS.more {T : List (Addr × Str)} {H0 H : Hp} {l p dx lp lf an cur rl ul rd : Addr} {past fut rds uds : List Addr} {n m : Nat} (h : RS K T H0 H l p dx lp lf an past cur fut rl ul rds rd uds n) (k : n ≤ m) (f : m ≤ 40) : RS K T H0 H l p dx lp lf an past cur fut rl ul rds rd uds m :=
  { h with len := Nat.le_trans h.len k, few := f }
/-- what an order leaves: nothing done -/
theorem RS.quiet {T : List (Addr × Str)} {H0 H H' : Hp} {l p dx lp lf an cur rl ul rd : Addr} {past fut rds uds : List Addr} {n : Nat} (h : RS K T H0 H l p dx lp lf an past cur fut rl ul rds rd uds n) (k : Kt [l, p, lp] H H') (hB : Bowl H' l) (hT : Tabs T H') (hs : Shf K H' p dx lp lf an past cur fut) : RS K T H0 H' l p dx lp lf an past cur fut rl ul rds rd uds n := by
  obtain ⟨b0, b1, b2, hb⟩ := h.bowl
  have m : Mu H [l, p, lp] := Mu.cons hb True.intro (Mu.cons h.shf.at_ True.intro (Mu.cons h.shf.lp_ True.intro (Mu.nil _)))
  have rp : rl ≠ p := ne_of h.rows h.shf.at_ (by intro z; cases z)
  have up : ul ≠ p := ne_of h.und h.shf.at_ (by intro z; cases z)
  exact { h with
    bowl := hB
    tabs := hT
    shf := hs
    rows := k _ _ h.rows (by simp; exact ⟨Ne.symm h.n1, rp, h.n6⟩) (fun ps z => by cases z)
    und := k _ _ h.und (by simp; exact ⟨Ne.symm h.n2, up, h.n8⟩) (fun ps z => by cases z)
    lvP := paired_imp h.lvP fun _ _ q => q.kt k m
    lvC := h.lvC.kt k m
    lvF := paired_imp h.lvF fun _ _ q => q.kt k m
    kt := fun b o e nb nt => k b o (h.kt b o e nb nt) (by simp at nb ⊢; exact ⟨nb, h.w1.ne e nt, h.w4.ne e nt⟩) nt }
/-- what an order leaves: a step, the lists made anew -/
theorem RS.step {T : List (Addr × Str)} {H0 H H' H2 : Hp} {l p dx lp lf an cur rl ul rd : Addr} {past fut rds uds : List Addr} {n : Nat} {dl lf' an' cu r e : Addr} {es' fs' : List Ent} (h : RS K T H0 H l p dx lp lf an past cur fut rl ul rds rd uds n) (hn : n < 40) (k : Kt [l, p, lp] H H') (hB : Bowl H' l) (hT : Tabs T H') (hdc : dl ≠ cu) (hl : NewN H lf') (hd : DE H' dl fs') (hc : DE H' cu es') (he : accE es' = accE fs') (hA : AOk (accE fs')) (hs : Shf K H' p dx lp lf' an' (past ++ [cur]) cu [])
    (sm : Same H' H2) (hr : H' r = none) (he2 : H' e = none) (hre : r ≠ e) (h2r : H2 r = some (.lst (((rds ++ [rd]) ++ [dl]).map V.ref))) (h2e : H2 e = some (.lst [])) : RS K T H0 H2 l p dx lp lf' an' (past ++ [cur]) cu [] r e (rds ++ [rd]) dl [] (n + 1) := by
  obtain ⟨b0, b1, b2, hb⟩ := id h.bowl
  obtain ⟨c0, c1, c2, hb'⟩ := id hB
  have m : Mu H [l, p, lp] := Mu.cons hb True.intro (Mu.cons h.shf.at_ True.intro (Mu.cons h.shf.lp_ True.intro (Mu.nil _)))
  have kt' : Kt [l] H0 H' := fun b o e nb nt => k b o (h.kt b o e nb nt) (by simp at nb ⊢; exact ⟨nb, h.w1.ne e nt, h.w4.ne e nt⟩) nt
  have km : Kt [] H' H2 := (Kp.of sm).kt
  exact {
    bowl := hB.same sm
    tabs := (Kp.of sm : Kp [] H' H2).tabs (Mu.nil _) hT
    shf := hs.same sm
    rows := h2r
    und := h2e
    lvP := paired_app (paired_imp h.lvP fun _ _ q => (q.kt k m).kt km (Mu.nil _)) ((h.lvC.kt k m).kt km (Mu.nil _))
    lvC := ⟨es', fs', hc.same sm, hd.same sm, he, hA, hdc⟩
    lvF := .nil
    len := by
      have := h.len
      rw [List.length_append, List.length_singleton, List.length_nil]
      omega
    few := hn
    n1 := ne_of_none hb' hr
    n2 := ne_of_none hb' he2
    n3 := hre
    n4 := h.n4
    n5 := hl.ne hb (fun ps z => by cases z)
    n6 := Ne.symm (ne_of_none hs.lp_ hr)
    n7 := Ne.symm (ne_of_none hs.lf_ hr)
    n8 := Ne.symm (ne_of_none hs.lp_ he2)
    n9 := Ne.symm (ne_of_none hs.lf_ he2)
    kt := kt'.trans (Kp.of sm).kt
    w1 := h.w1
    w2 := newN_of kt' hB (newN_none hr)
    w3 := newN_of kt' hB (newN_none he2)
    w4 := h.w4
    w5 := newN_of h.kt h.bowl hl }
theorem right_after {c : Addr} {T : List (Addr × Str)} (F : Fx K mg)
    (f : Addr) (A : Around) (outer : List Env) (s : Shared) (H : Hp) (E : XK) (hr : Room 12 (A.deeper (envOfC "_law_right" (defScope sLRight) s.heap.objs.size f (.ref c)))) :
    ∃ tT : TS, PSs (xLRight P w K mg base f c A outer s H E) ((ifB ((forB ((defBody sLRight).drop 1)).drop 1)).drop 1) tT ∧
      ∀ (H0 H1 H' : Hp) (l p dx lp lf an cur rl ul rd : Addr) (past fut rds uds : List Addr) (n wv : Nat) (y : V) (u4 u8 u9 u10 u11 u12 : Option V) (Q : VK) (N Bk Ct : L2.St → Hp → Prop), RS K T H0 H1 l p dx lp lf an past cur fut rl ul rds rd uds n → n < 40 →
        Kt [l, p, lp] H1 H' → Bowl H' l → Tabs T H' →
        ((y = .non ∧ Shf K H' p dx lp lf an past cur fut) ∨ (∃ dl lf' an' cu es' fs', y = .ref dl ∧ dl ≠ cu ∧ NewN H1 lf' ∧ DE H' dl fs' ∧ DE H' cu es' ∧ accE es' = accE fs' ∧ AOk (accE fs') ∧ Shf K H' p dx lp lf' an' (past ++ [cur]) cu [])) →
        (∀ H' lp' lf' an' cur' rl' ul' rd' past' fut' rds' uds' v6 v7, RS K T H0 H' l p dx lp' lf' an' past' cur' fut' rl' ul' rds' rd' uds' (n + 1) → N [some (.ref l), some (.ref p), some (.ref rl'), some (.ref ul'), u4, some (.int (wv : Int)), v6, v7, u8, u9, u10, u11, u12] H') →
        tT { nx := N, rt := Q, bk := Bk, ct := Ct } [some (.ref l), some (.ref p), some (.ref rl), some (.ref ul), u4, some (.int (wv : Int)), some (.bl true), some y, u8, u9, u10, u11, u12] H' := by
  refine ⟨_, pss_cons (ps_if (pt_not (pt_val (pv 6))) (pss_one (ps_ret pe_bl)) pss_nil)
    (pss_one (ps_asg (pe_ifExp (pt_cmpR op_notN (pv 7) pe_non (nomark _)) (pe_tup (pa_cons (pe_op op_cat (pv 2) (pe_lst (pa_cons (pv 7) pa_nil))) (pa_cons (pe_lst pa_nil) pa_nil))) (pe_tup (pa_cons (pv 2) (pa_cons (pv 3) pa_nil)))) (pg_tup (n := 2) rfl (pgs_cons (pg_name (i := 2) scLRight.nd rfl (Or.inl rfl)) (pgs_cons (pg_name (i := 3) scLRight.nd rfl (Or.inl rfl)) pgs_nil))))), ?_⟩
  intro H0 H1 H' l p dx lp lf an cur rl ul rd past fut rds uds n wv y u4 u8 u9 u10 u11 u12 Q N Bk Ct h hn40 k hB hT hout hN
  have rp : rl ≠ p := ne_of h.rows h.shf.at_ (by intro z; cases z)
  have hrows : H' rl = some (.lst ((rds ++ [rd]).map V.ref)) := k _ _ h.rows (by simp; exact ⟨Ne.symm h.n1, rp, h.n6⟩) (fun ps z => by cases z)
  refine ⟨_, rfl, _, rfl, iteF ⟨_, rfl, rfl, _, rfl, ?_⟩⟩
  rcases hout with ⟨rfl, hs⟩ | ⟨dl, lf', an', cu, es', fs', rfl, hdc, hl, hd, hc, he, hA, hs⟩
  · refine iteF ⟨_, rfl, _, rfl, two_le2, fun u hu => ?_⟩
    refine ⟨u, _, rfl, SqT.of upd_same, rfl, _, _, rfl, _, _, rfl, rfl, ?_⟩
    exact hN _ lp lf an cur rl ul rd past fut rds uds _ _ (((h.quiet k hB hT hs).same (same_laid hu)).more (by omega) hn40)
  · refine iteT ⟨_, rfl, _, rfl, by show 1 ≤ sizeLine; rw [sizeLine_eq]; decide, fun x hx => ?_⟩
    have s1 : Same H' (upd H' x (.lst [.ref dl])) := same_laid hx
    have hx1 : (upd H' x (.lst [.ref dl])) x = some (.lst [.ref dl]) := upd_same
    generalize upd H' x (.lst [.ref dl]) = J1 at s1 hx1
    have hrl : rds.length ≤ 40 := by
      have := h.lvP.length
      have := h.len
      omega
    refine ⟨rl, x, _, _, rfl, rfl, s1 _ _ hrows, hx1, by rw [List.length_map, List.length_append, sizeLine_eq, List.length_singleton, List.length_singleton]; omega, fun r hr2 => ?_⟩
    have er : (rds ++ [rd]).map V.ref ++ [V.ref dl] = ((rds ++ [rd]) ++ [dl]).map V.ref := by simp
    rw [er]
    have s2 : Same J1 (upd J1 r (.lst (((rds ++ [rd]) ++ [dl]).map V.ref))) := same_laid hr2
    have hr3 : (upd J1 r (.lst (((rds ++ [rd]) ++ [dl]).map V.ref))) r = some (.lst (((rds ++ [rd]) ++ [dl]).map V.ref)) := upd_same
    refine ⟨by show 0 ≤ sizeLine; rw [sizeLine_eq]; decide, fun e he2 => ⟨two_le2, fun u hu => ?_⟩⟩
    have hre : r ≠ e := ne_of_none hr3 he2
    have he3 : J1 e = none := s2.free he2
    generalize upd J1 r (.lst (((rds ++ [rd]) ++ [dl]).map V.ref)) = J2 at s2 hr3 he2 hu
    have s3 : Same J2 (upd J2 e (.lst [])) := same_laid he2
    have he4 : (upd J2 e (.lst [])) e = some (.lst []) := upd_same
    generalize upd J2 e (.lst []) = J3 at s3 he4 hu
    have s4 : Same J3 (upd J3 u (.tup [.ref r, .ref e])) := same_laid hu
    refine ⟨u, _, rfl, SqT.of upd_same, rfl, _, _, rfl, _, _, rfl, rfl, ?_⟩
    exact hN _ lp lf' an' cu r e dl (past ++ [cur]) [] (rds ++ [rd]) [] _ _ (h.step hn40 k hB hT hdc hl hd hc he hA hs (((s1.trans s2).trans s3).trans s4) (s1.free hr2) (s1.free he3) hre ((s3.trans s4) _ _ hr3) (s4 _ _ he4))
theorem right_order {c : Addr} {T : List (Addr × Str)} (F : Fx K mg)
    (G1 : Cal P w K mg base CX0 12 "_law_put_or_dropped" ["bowl", "shelf", "account"] (spLChanged K T)) (G2 : Cal P w K mg base CX0 12 "_law_changed" ["bowl", "shelf", "account"] (spLChanged K T))
    (f : Addr) (A : Around) (outer : List Env) (s : Shared) (H : Hp) (E : XK) (hr : Room 12 (A.deeper (envOfC "_law_right" (defScope sLRight) s.heap.objs.size f (.ref c)))) :
    ∃ tT : TS, PSs (xLRight P w K mg base f c A outer s H E) (ifB ((forB ((defBody sLRight).drop 1)).drop 1)) tT ∧
      ∀ (H0 H1 : Hp) (l p dx lp lf an cur rl ul rd : Addr) (past fut rds uds : List Addr) (n wv : Nat) (u4 u6 u7 u8 u9 u10 u11 u12 : Option V) (Q : VK) (N Bk Ct : L2.St → Hp → Prop), RS K T H0 H1 l p dx lp lf an past cur fut rl ul rds rd uds n → n < 40 →
        (∀ H' lp' lf' an' cur' rl' ul' rd' past' fut' rds' uds' v6 v7, RS K T H0 H' l p dx lp' lf' an' past' cur' fut' rl' ul' rds' rd' uds' (n + 1) → N [some (.ref l), some (.ref p), some (.ref rl'), some (.ref ul'), u4, some (.int (wv : Int)), v6, v7, u8, u9, u10, u11, u12] H') →
        tT { nx := N, rt := Q, bk := Bk, ct := Ct } [some (.ref l), some (.ref p), some (.ref rl), some (.ref ul), u4, some (.int (wv : Int)), u6, u7, u8, u9, u10, u11, u12] H1 := by
  obtain ⟨tS, hPS, hS⟩ := right_after (P := P) (w := w) (base := base) (c := c) (T := T) F f A outer s H E hr
  refine ⟨_, pss_cons (ps_if (pw_or (pt_cmpR op_lt (pv 5) pe_int (nomark _)) (pw_or1 (pt_cmpR (op_eqK hr.units0) (pe_ix ix_list (pv 2) (pe_un un_neg pe_int) (fun _ _ => rfl)) pe_dnewK (nomark _)))).pt
      (pss_one (ps_asg (pe_cal G1 hr (by rfl) pass0 (pa_cons (pv 0) (pa_cons (pv 1) (pa_cons (pe_ix ix_list (pv 2) (pe_un un_neg pe_int) (fun _ _ => rfl)) pa_nil)))) (pg_tup (n := 2) rfl (pgs_cons (pg_name (i := 6) scLRight.nd rfl (Or.inl rfl)) (pgs_cons (pg_name (i := 7) scLRight.nd rfl (Or.inl rfl)) pgs_nil)))))
      (pss_one (ps_asg (pe_cal G2 hr (by rfl) pass0 (pa_cons (pv 0) (pa_cons (pv 1) (pa_cons (pe_ix ix_list (pv 2) (pe_un un_neg pe_int) (fun _ _ => rfl)) pa_nil)))) (pg_tup (n := 2) rfl (pgs_cons (pg_name (i := 6) scLRight.nd rfl (Or.inl rfl)) (pgs_cons (pg_name (i := 7) scLRight.nd rfl (Or.inl rfl)) pgs_nil))))))
    (by exact hPS), ?_⟩
  intro H0 H1 l p dx lp lf an cur rl ul rd past fut rds uds n wv u4 u6 u7 u8 u9 u10 u11 u12 Q N Bk Ct h hn40 hN
  have last : ∀ {H' : Hp}, Same H1 H' → SqL K H' rl (rds.map V.ref ++ [.ref rd]) := fun sm => SqL.of (by have := sm _ _ h.rows; rw [List.map_append] at this; exact this)
  obtain ⟨es, fs, de, df, eac, hA, hdc⟩ := id h.lvC
  have call : ∀ (H2 : Hp) (Qk : VK), Same H1 H2 → (∀ t y H', H' t = some (.tup [.bl true, y]) → tS { nx := N, rt := Q, bk := Bk, ct := Ct } [some (.ref l), some (.ref p), some (.ref rl), some (.ref ul), u4, some (.int (wv : Int)), some (.bl true), some y, u8, u9, u10, u11, u12] H' → Qk (.ref t) H') →
      spLChanged K T [.ref l, .ref p, .ref rd] H2 Qk L2.E0 := fun H2 Qk sm hk => by
    have h2 := h.same sm
    refine ⟨l, p, rd, dx, lp, lf, an, past, cur, fut, es, fs, rfl, h2.bowl, h2.tabs, h2.shf, de.same sm, df.same sm, eac, hA, by have := h.len; omega, h.n4, h.n5, fun H' t y k hB hT ht hout => hk t y H' ht ?_⟩
    exact hS H0 H2 H' l p dx lp lf an cur rl ul rd past fut rds uds n wv y u4 u8 u9 u10 u11 u12 Q N Bk Ct h2 hn40 k hB hT hout hN
  refine ⟨_, rfl, _, _, rfl, rfl, _, rfl, ?_⟩
  by_cases hw : (wv : Int) < 2
  · rw [decide_eq_true hw]
    refine iteT (iteT ⟨_, rfl, _, rfl, _, rfl, _, rfl, rl, _, -1, .ref rd, rfl, rfl, last (Same.refl _), atI_last _ _, call H1 _ (Same.refl _) fun t y H' ht hx => ?_⟩)
    exact ⟨t, _, rfl, SqT.of ht, rfl, _, _, rfl, _, _, rfl, rfl, hx⟩
  · rw [decide_eq_false hw]
    refine iteF ⟨_, rfl, _, rfl, rl, _, -1, .ref rd, rfl, rfl, last (Same.refl _), atI_last _ _, fun e0 he0 => ?_⟩
    have s0 : Same H1 (upd H1 e0 (.dK [])) := same_laid he0
    refine ⟨decide (fs = []), ⟨rd, e0, kvE fs, [], rfl, rfl, s0 _ _ df.at_, upd_same, ?_⟩, _, rfl, ?_⟩
    · cases fs with
      | nil => exact .inr ⟨rfl, (fun p hp => by cases hp), rfl⟩
      | cons a b => exact .inl ⟨by simp [kvE], rfl⟩
    · by_cases hf : fs = []
      · rw [decide_eq_true hf]
        refine iteT ⟨_, rfl, _, rfl, _, rfl, _, rfl, rl, _, -1, .ref rd, rfl, rfl, last s0, atI_last _ _, call _ _ s0 fun t y H' ht hx => ?_⟩
        exact ⟨t, _, rfl, SqT.of ht, rfl, _, _, rfl, _, _, rfl, rfl, hx⟩
      · rw [decide_eq_false hf]
        refine iteF ⟨_, rfl, _, rfl, _, rfl, _, rfl, rl, _, -1, .ref rd, rfl, rfl, last s0, atI_last _ _, call _ _ s0 fun t y H' ht hx => ?_⟩
        exact ⟨t, _, rfl, SqT.of ht, rfl, _, _, rfl, _, _, rfl, rfl, hx⟩
end
end T83

set_option Elab.async false
set_option linter.all false
set_option maxRecDepth 100000
set_option maxHeartbeats 4000000
namespace T83
open PySem PySem.Spec PyProof.Rows L2 RZ LamX
/-! pairs of lists -/
theorem paired_take {α β : Type} {F : α → β → Prop} : ∀ (n : Nat) {xs : List α} {ys : List β}, Paired F xs ys → Paired F (xs.take n) (ys.take n)
  | 0, _, _, _ => by rw [List.take_zero, List.take_zero]; exact .nil
  | n + 1, _, _, .nil => .nil
  | n + 1, _, _, .cons h t => .cons h (paired_take n t)
theorem paired_drop {α β : Type} {F : α → β → Prop} : ∀ (n : Nat) {xs : List α} {ys : List β}, Paired F xs ys → Paired F (xs.drop n) (ys.drop n)
  | 0, _, _, h => h
  | n + 1, _, _, .nil => .nil
  | n + 1, _, _, .cons h t => paired_drop n t
theorem paired_append {α β : Type} {F : α → β → Prop} : ∀ {xs zs : List α} {ys ws : List β}, Paired F xs ys → Paired F zs ws → Paired F (xs ++ zs) (ys ++ ws)
  | _, _, _, _, .nil, h => h
  | _, _, _, _, .cons h t, k => .cons h (paired_append t k)
theorem paired_rev {α β : Type} {F : α → β → Prop} : ∀ {xs : List α} {ys : List β}, Paired F xs ys → Paired F xs.reverse ys.reverse
  | _, _, .nil => .nil
  | _, _, .cons h t => by
    rw [List.reverse_cons, List.reverse_cons]
    exact paired_app (paired_rev t) h
theorem paired_split {α β : Type} {F : α → β → Prop} {xs : List α} {x : α} {ys : List β} (h : Paired F (xs ++ [x]) ys) : ∃ zs y, ys = zs ++ [y] ∧ Paired F xs zs ∧ F x y := by
  induction xs generalizing ys with
  | nil =>
    cases h with
    | cons h t =>
      cases t
      exact ⟨[], _, rfl, .nil, h⟩
  | cons a xs ih =>
    cases h with
    | cons h t =>
      obtain ⟨zs, y, rfl, h2, h3⟩ := ih t
      exact ⟨_ :: zs, y, rfl, .cons h h2, h3⟩
/-- steps back, or forth: the shelf's and the law's lists have moved -/
theorem RS.moved {K : PySem.W.Frag} {T : List (Addr × Str)} {H0 H H3 : Hp} {l p dx lp lf an cur rl ul rd cur' rd' : Addr} {past fut rds uds past' fut' rds' uds' : List Addr} {n : Nat} (h : RS K T H0 H l p dx lp lf an past cur fut rl ul rds rd uds n) (k : Kt [p, lp, lf, rl, ul] H H3) (hT : Tabs T H3) (hs : Shf K H3 p dx lp lf an past' cur' fut')
    (hr : H3 rl = some (.lst ((rds' ++ [rd']).map V.ref))) (hu : H3 ul = some (.lst (uds'.map V.ref))) (lvP : Paired (Lv H) past' rds') (lvC : Lv H cur' rd') (lvF : Paired (Lv H) fut' uds') (len : past'.length + fut'.length ≤ n) : RS K T H0 H3 l p dx lp lf an past' cur' fut' rl ul rds' rd' uds' n := by
  have pl : p ≠ l := bowl_ne h.bowl h.shf.at_ (fun xs z => by cases z)
  have m : Mu H [p, lp, lf, rl, ul] := Mu.cons h.shf.at_ True.intro (Mu.cons h.shf.lp_ True.intro (Mu.cons h.shf.lf_ True.intro (Mu.cons h.rows True.intro (Mu.cons h.und True.intro (Mu.nil _)))))
  exact { h with
    bowl := h.bowl.kt k (by simp; exact ⟨Ne.symm pl, h.n4, h.n5, h.n1, h.n2⟩)
    tabs := hT
    shf := hs
    rows := hr
    und := hu
    lvP := paired_imp lvP fun _ _ q => q.kt k m
    lvC := lvC.kt k m
    lvF := paired_imp lvF fun _ _ q => q.kt k m
    len := len
    kt := fun b o e nb nt => k b o (h.kt b o e nb nt) (by simp; exact ⟨h.w1.ne e nt, h.w4.ne e nt, h.w5.ne e nt, h.w2.ne e nt, h.w3.ne e nt⟩) nt }
section
variable {P : Program} {w : World} {K : PySem.W.Frag} {mg : Str → Option Value} {base : Heap}
def sS (l p rl ul : Addr) (u4 : Option V) (wv : Nat) (u6 u7 : Option V) (y : V) (far : Nat) (t : Addr) (v11 u12 : Option V) : L2.St := [some (.ref l), some (.ref p), some (.ref rl), some (.ref ul), u4, some (.int (wv : Int)), u6, u7, some y, some (.int (far : Int)), some (.ref t), v11, u12]
theorem shaped_toldI {a : Str} {i : Int} (h1 : PyData.strOk a = true) : SeqAt.shaped (.tuple [.str a, .int i]) = true := by
  unfold SeqAt.shaped
  rw [PyData.canLay0, PyData.canLayAll0, PyData.canLayAll0, PyData.canLayAll0, PyData.canLay0, PyData.canLay0, h1, PyData.depth, PyData.depthAll, PyData.depthAll, PyData.depthAll, PyData.depth, PyData.depth]
  rfl
theorem eqv_toldI (a : Str) (i : Int) : PyData.eqv (.tuple [.str a, .int i]) (.tuple [.str a, .int i]) = true := by
  show PyData.eqvAll [.str a, .int i] [.str a, .int i] = true
  rw [PyData.eqvAll, PyData.eqvAll, PyData.eqvAll, PyData.eqv, PyData.eqv, beq_self_eq_true, beq_self_eq_true]
  rfl
theorem right_check {c : Addr} (F : Fx K mg) (G2 : Cal P w K mg base CX0 1 "_law_is_whole" ["value", "low", "high"] spLWhole)
    (f : Addr) (A : Around) (outer : List Env) (s : Shared) (H : Hp) (E : XK) (hr : Room 12 (A.deeper (envOfC "_law_right" (defScope sLRight) s.heap.objs.size f (.ref c)))) :
    ∃ tT : TS, PSs (xLRight P w K mg base f c A outer s H E) ((elsB ((forB ((defBody sLRight).drop 1)).drop 1)).drop 3) tT ∧
      ∀ (H2 : Hp) (l p rl ul t : Addr) (ra ua : List Addr) (u4 u6 u7 u11 u12 : Option V) (wv far : Nat) (y : V) (d : PyData) (j : Int) (Q : VK) (N Bk Ct : L2.St → Hp → Prop), Atm y d → PyData.strOk d.shown = true → H2 rl = some (.lst (ra.map V.ref)) → H2 ul = some (.lst (ua.map V.ref)) → rl ≠ ul → ra.length ≤ 100 → ua.length ≤ 100 →
        (wf 0 d = false → H2 t = some (.tup [.str "raised", .str ("number " ++ d.shown)]) ∧ ∀ H', Same H2 H' → N (sS l p rl ul u4 wv u6 u7 y far t u11 u12) H') →
        (∀ k : Nat, d = .int (k : Int) → far < k → H2 t = some (.tup [.str "raised", .str ("nothing " ++ d.shown)]) ∧ ∀ H', Same H2 H' → N (sS l p rl ul u4 wv u6 u7 y far t u11 u12) H') →
        (∀ k : Nat, d = .int (k : Int) → k ≤ far → H2 t = some (.tup [.str "told", .int j]) ∧
          (wv = 6 → k < ra.length ∧ j = (ra.length : Int) - k - 1 ∧ ∀ H' v11, Kp [rl, ul] H2 H' → H' rl = some (.lst ((ra.take (ra.length - k)).map V.ref)) → H' ul = some (.lst ((ua ++ (ra.drop (ra.length - k)).reverse).map V.ref)) → N (sS l p rl ul u4 wv u6 u7 y far t v11 u12) H') ∧
          (wv ≠ 6 → k ≤ ua.length ∧ 0 < ra.length ∧ j = (ra.length : Int) + k - 1 ∧ ∀ H' v11, Kp [rl, ul] H2 H' → H' ul = some (.lst ((ua.take (ua.length - k)).map V.ref)) → H' rl = some (.lst ((ra ++ (ua.drop (ua.length - k)).reverse).map V.ref)) → N (sS l p rl ul u4 wv u6 u7 y far t v11 u12) H')) →
        tT { nx := N, rt := Q, bk := Bk, ct := Ct } (sS l p rl ul u4 wv u6 u7 y far t u11 u12) H2 := by
  refine ⟨_, pss_one (ps_if (pt_not (pt_val (pe_cal G2 (hr.mono (by decide)) (by rfl) pass0 (pa_cons (pv 8) (pa_cons pe_int (pa_cons pe_non pa_nil))))))
      (pss_one (ps_if (pt_cmpR (op_neD hr.units) (pv 10) (pe_tup (pa_cons pe_str (pa_cons (pe_op op_add_str pe_str (pe_callB call_reprA (by rfl) (F.b "repr" (by decide)) (by decide +kernel) (pa_cons (pv 8) pa_nil))) pa_nil))) (nomark _)) (pss_one (ps_ret pe_bl)) pss_nil))
      (pss_one (ps_if (pt_cmpR op_gt (pv 8) (pv 9) (nomark _))
        (pss_one (ps_if (pt_cmpR (op_neD hr.units) (pv 10) (pe_tup (pa_cons pe_str (pa_cons (pe_op op_add_str pe_str (pe_callB call_reprA (by rfl) (F.b "repr" (by decide)) (by decide +kernel) (pa_cons (pv 8) pa_nil))) pa_nil))) (nomark _)) (pss_one (ps_ret pe_bl)) pss_nil))
        (pss_cons (ps_for PassesOwn.never rfl (pi_range1 rfl (F.b "range" (by decide)) (pa_cons (pv 8) pa_nil)) (pg_name (i := 11) scLRight.nd rfl (Or.inl rfl))
            (pss_one (ps_if (pt_cmpR op_eq (pv 5) pe_int (nomark _))
              (pss_one (ps_expr (pe_bm PySem.F.plainAttrs_list PySem.F.slot_list_append PySem.F.type_list_append mt_append (pv 3) (pa_cons (pe_bm0 PySem.F.plainAttrs_list PySem.F.slot_list_pop PySem.F.type_list_pop mt_pop (pv 2)) pa_nil))))
              (pss_one (ps_expr (pe_bm PySem.F.plainAttrs_list PySem.F.slot_list_append PySem.F.type_list_append mt_append (pv 2) (pa_cons (pe_bm0 PySem.F.plainAttrs_list PySem.F.slot_list_pop PySem.F.type_list_pop mt_pop (pv 3)) pa_nil)))))))
        (pss_one (ps_if (pt_cmpR (op_neD hr.units) (pv 10) (pe_tup (pa_cons pe_str (pa_cons (pe_op op_sub (pe_callB call_len (by rfl) (F.b "len" (by decide)) boot_len (pa_cons (pv 2) pa_nil)) pe_int) pa_nil))) (nomark _)) (pss_one (ps_ret pe_bl)) pss_nil)))))), ?_⟩
  intro H2 l p rl ul t ra ua u4 u6 u7 u11 u12 wv far y d j Q N Bk Ct ay hok hrl hul hne hra hua hA hB hC
  have lits : ∀ (a : Str), a.length ≤ 1000 → a.length + d.shown.length ≤ sizeLine := fun a ha => by
    have := ay.len
    rw [sizeLine_eq]
    omega
  refine ⟨_, rfl, y, d, 0, _, rfl, ay.dv H2, .inr ⟨rfl, _, rfl, ?_⟩⟩
  cases hw : wf 0 d with
  | false =>
    obtain ⟨ht, hq⟩ := hA hw
    refine iteT ⟨_, rfl, _, rfl, _, _, rfl, ay, _, _, rfl, rfl, lits _ (by decide +kernel), two_le2, fun u hu => ?_⟩
    have su := same_laid (o := .tup [.str "raised", .str ("number " ++ d.shown)]) hu
    have ok : PyData.strOk ("number " ++ d.shown) = true := strOk_app (by decide +kernel) hok
    refine ⟨_, _, dp_two (su _ _ ht), dp_two upd_same, shaped_two (by decide +kernel) ok, shaped_two (by decide +kernel) ok, _, rfl, ?_⟩
    rw [eqv_two, beq_self_eq_true, beq_self_eq_true]
    exact iteF (hq _ su)
  | true =>
    obtain ⟨k, rfl⟩ : ∃ k : Nat, d = .int (k : Int) := by
      cases d with
      | int i =>
        have h0 : (0 : Int) ≤ i := of_decide_eq_true hw
        exact ⟨i.toNat, by rw [Int.toNat_of_nonneg h0]⟩
      | _ => cases hw
    obtain rfl : y = .int (k : Int) := dv_int (ay.dv H2)
    refine iteF ⟨_, rfl, _, rfl, _, _, rfl, rfl, _, rfl, ?_⟩
    by_cases hk : far < k
    · rw [decide_eq_true (by omega)]
      obtain ⟨ht, hq⟩ := hB k rfl hk
      refine iteT ⟨_, rfl, _, rfl, _, _, rfl, ay, _, _, rfl, rfl, lits _ (by decide +kernel), two_le2, fun u hu => ?_⟩
      have su := same_laid (o := .tup [.str "raised", .str ("nothing " ++ (PyData.int (k : Int)).shown)]) hu
      have ok : PyData.strOk ("nothing " ++ (PyData.int (k : Int)).shown) = true := strOk_app (by decide +kernel) hok
      refine ⟨_, _, dp_two (su _ _ ht), dp_two upd_same, shaped_two (by decide +kernel) ok, shaped_two (by decide +kernel) ok, _, rfl, ?_⟩
      rw [eqv_two, beq_self_eq_true, beq_self_eq_true]
      exact iteF (hq _ su)
    · rw [decide_eq_false (by omega)]
      obtain ⟨ht, h6, hn6⟩ := hC k rfl (by omega)
      have hul' : ul ≠ rl := Ne.symm hne
      refine iteF ⟨_, rfl, (k : Int), rfl, by omega, by omega, ?_⟩
      refine for_range (lo := 0) (n := k) (fun i σ H' => (∃ v11, σ = sS l p rl ul u4 wv u6 u7 (.int (k : Int)) far t v11 u12) ∧ Kp [rl, ul] H2 H' ∧
        (wv = 6 → H' rl = some (.lst ((ra.take (ra.length - i)).map V.ref)) ∧ H' ul = some (.lst ((ua ++ (ra.drop (ra.length - i)).reverse).map V.ref))) ∧
        (wv ≠ 6 → H' ul = some (.lst ((ua.take (ua.length - i)).map V.ref)) ∧ H' rl = some (.lst ((ra ++ (ua.drop (ua.length - i)).reverse).map V.ref)))) ⟨⟨u11, rfl⟩, Kp.refl _ _, (fun _ => ⟨by simpa using hrl, by simpa using hul⟩), (fun _ => ⟨by simpa using hul, by simpa using hrl⟩)⟩ (fun i σ H3 hi hP => ?_) (fun σ H3 hP => ?_)
      · obtain ⟨⟨v11, rfl⟩, kp, i6, in6⟩ := hP
        have popd : ∀ (xs : List Addr), i < xs.length → ∃ x, ((xs.take (xs.length - i)).map V.ref)[((xs.take (xs.length - i)).map V.ref).length - 1]? = some (V.ref x) ∧ ((xs.take (xs.length - i)).map V.ref).dropLast = (xs.take (xs.length - (i + 1))).map V.ref ∧ (xs.drop (xs.length - (i + 1))).reverse = (xs.drop (xs.length - i)).reverse ++ [x] := fun xs hx => by
          have hm : xs.length - (i + 1) < xs.length := by omega
          have e1 : xs.length - i = xs.length - (i + 1) + 1 := by omega
          have e2 : xs.take (xs.length - i) = xs.take (xs.length - (i + 1)) ++ [xs[xs.length - (i + 1)]] := by
            rw [e1, List.take_add_one, List.getElem?_eq_getElem hm]
            rfl
          have e3 : xs.drop (xs.length - (i + 1)) = xs[xs.length - (i + 1)] :: xs.drop (xs.length - i) := by
            rw [e1]
            exact List.drop_eq_getElem_cons hm
          refine ⟨xs[xs.length - (i + 1)], ?_, ?_, ?_⟩
          · rw [e2, List.map_append]
            simp
          · rw [e2, List.map_append]
            simp
          · rw [e3, List.reverse_cons]
        refine ⟨_, rfl, rfl, _, rfl, ?_⟩
        show (if decide (V.int (wv : Int) = V.int 6) = true then _ else _)
        by_cases hw6 : wv = 6
        · rw [decide_eq_true (by rw [hw6]; rfl)]
          obtain ⟨h1, h2⟩ := i6 hw6
          obtain ⟨hkr, _⟩ := h6 hw6
          obtain ⟨x, p1, p2, p3⟩ := popd ra (by omega)
          refine iteT ⟨_, rfl, .inl ⟨rfl, _, .inl (.inl h2)⟩, _, rfl, .inl ⟨rfl, _, .inl (.inl h1)⟩, rl, _, _, rfl, rfl, h1, p1, ?_⟩
          rw [p2]
          refine ⟨ul, _, _, rfl, rfl, (by rw [upd_ne hul']; exact h2), ?_, ?_⟩
          · rw [List.length_map, List.length_append, List.length_reverse, List.length_drop, sizeLine_eq]
            omega
          refine ⟨⟨_, rfl⟩, (kp.put (.inl (by simp))).put (.inl (by simp)), fun _ => ⟨?_, ?_⟩, fun e => absurd hw6 e⟩
          · rw [upd_ne hne, upd_same]
          · rw [upd_same, p3]
            simp
        · rw [decide_eq_false (fun z => hw6 (by injection z with z; omega))]
          obtain ⟨h1, h2⟩ := in6 hw6
          obtain ⟨hku, _⟩ := hn6 hw6
          obtain ⟨x, p1, p2, p3⟩ := popd ua (by omega)
          refine iteF ⟨_, rfl, .inl ⟨rfl, _, .inl (.inl h2)⟩, _, rfl, .inl ⟨rfl, _, .inl (.inl h1)⟩, ul, _, _, rfl, rfl, h1, p1, ?_⟩
          rw [p2]
          refine ⟨rl, _, _, rfl, rfl, (by rw [upd_ne hne]; exact h2), ?_, ?_⟩
          · rw [List.length_map, List.length_append, List.length_reverse, List.length_drop, sizeLine_eq]
            omega
          refine ⟨⟨_, rfl⟩, (kp.put (.inl (by simp))).put (.inl (by simp)), fun e => absurd e hw6, fun _ => ⟨?_, ?_⟩⟩
          · rw [upd_ne hul', upd_same]
          · rw [upd_same, p3]
            simp
      · obtain ⟨⟨v11, rfl⟩, kp, i6, in6⟩ := hP
        have htn : H3 t = some (.tup [.str "told", .int j]) := kp _ _ ht (by simp; exact ⟨fun z => (by rw [z, hrl] at ht; cases ht), fun z => (by rw [z, hul] at ht; cases ht)⟩)
        obtain ⟨ks, hks, hj, hN⟩ : ∃ ks : List Addr, H3 rl = some (.lst (ks.map V.ref)) ∧ (ks.length : Int) - 1 = j ∧ ∀ H', Same H3 H' → N (sS l p rl ul u4 wv u6 u7 (.int (k : Int)) far t v11 u12) H' := by
          by_cases hw6 : wv = 6
          · obtain ⟨h1, h2⟩ := i6 hw6
            obtain ⟨hkr, hj, hN⟩ := h6 hw6
            refine ⟨_, h1, ?_, fun H' sm => hN H' v11 (kp.trans (Kp.of sm)) (sm _ _ h1) (sm _ _ h2)⟩
            rw [List.length_take, hj]
            omega
          · obtain ⟨h1, h2⟩ := in6 hw6
            obtain ⟨hku, hr0, hj, hN⟩ := hn6 hw6
            refine ⟨_, h2, ?_, fun H' sm => hN H' v11 (kp.trans (Kp.of sm)) (sm _ _ h1) (sm _ _ h2)⟩
            rw [List.length_append, List.length_reverse, List.length_drop, hj]
            omega
        have ek : (((ks.map V.ref).length : Nat) : Int) - 1 = j := by rw [List.length_map]; exact hj
        refine ⟨_, rfl, _, rfl, _, (ks.map V.ref).length, rfl, .inl ⟨_, SqL.of hks, rfl⟩, _, _, rfl, rfl, two_le2, fun u hu => ?_⟩
        have ek2 : (fun i j : Int => V.int (i - j)) (((ks.map V.ref).length : Nat) : Int) 1 = V.int j := congrArg V.int ek
        rw [ek2]
        have su := same_laid (o := .tup [.str "told", .int j]) hu
        refine ⟨_, _, .tup (SqT.of (su _ _ htn)) (.cons (.str _) (.cons (.int _) .nil)), .tup (SqT.of upd_same) (.cons (.str _) (.cons (.int _) .nil)), shaped_toldI (by decide +kernel), shaped_toldI (by decide +kernel), _, rfl, ?_⟩
        rw [eqv_toldI]
        exact iteF (hN _ su)
end
end T83

set_option Elab.async false
set_option linter.all false
set_option maxRecDepth 100000
set_option maxHeartbeats 4000000
namespace T83
open PySem PySem.Spec PyProof.Rows L2 RZ LamX
section
variable {P : Program} {w : World} {K : PySem.W.Frag} {mg : Str → Option Value} {base : Heap}
theorem wf_nat (k : Nat) : wf 0 (.int (k : Int)) = true := by
  show decide ((0 : Int) ≤ (k : Int)) = true
  exact decide_eq_true (Int.natCast_nonneg k)
theorem right_steps {c Pt : Addr} {T : List (Addr × Str)} (F : Fx K mg) (Ts : Fs K mg) (D : AtC K mg base "_law_right" sLRight c Pt) (hmT : (Pt, ("_law_right.<locals>.<lambda>" : Str)) ∈ T) (hu : ∀ p ∈ T, p.1 = Pt → p.2 = ("_law_right.<locals>.<lambda>" : Str)) (HO : HeardOk P w K mg base)
    (G1 : Cal P w K mg base CX0 2 "_law_one_of" ["bowl", "items"] spOneOf) (G2 : Cal P w K mg base CX0 1 "_law_is_whole" ["value", "low", "high"] spLWhole)
    (M1 : CalM P w K mg base (L2.CX P w) 8 "undo" ["self", "many"] (spUndo K)) (M2 : CalM P w K mg base (L2.CX P w) 8 "redo" ["self", "many"] (spRedo K))
    (f : Addr) (A : Around) (outer : List Env) (s : Shared) (H : Hp) (E : XK) (hr : Room 12 (A.deeper (envOfC "_law_right" (defScope sLRight) s.heap.objs.size f (.ref c)))) :
    ∃ tT : TS, PSs (xLRight P w K mg base f c A outer s H E) (elsB ((forB ((defBody sLRight).drop 1)).drop 1)) tT ∧
      ∀ (H0 H1 : Hp) (l p dx lp lf an cur rl ul rd : Addr) (past fut rds uds : List Addr) (n wv : Nat) (u4 u6 u7 u8 u9 u10 u11 u12 : Option V) (Q : VK) (N Bk Ct : L2.St → Hp → Prop), RS K T H0 H1 l p dx lp lf an past cur fut rl ul rds rd uds n → n < 40 →
        (∀ H' lp' lf' an' cur' rl' ul' rd' past' fut' rds' uds' v6 v7 v8 v9 v10 v11, RS K T H0 H' l p dx lp' lf' an' past' cur' fut' rl' ul' rds' rd' uds' (n + 1) → N [some (.ref l), some (.ref p), some (.ref rl'), some (.ref ul'), u4, some (.int (wv : Int)), v6, v7, v8, v9, v10, v11, u12] H') →
        tT { nx := N, rt := Q, bk := Bk, ct := Ct } [some (.ref l), some (.ref p), some (.ref rl), some (.ref ul), u4, some (.int (wv : Int)), u6, u7, u8, u9, u10, u11, u12] H1 := by
  obtain ⟨gh, fdh, hm, hk, hb, GH⟩ := HO.ex
  have r8 : Room (8 + 3) (A.deeper (envOfC "_law_right" (defScope sLRight) s.heap.objs.size f (.ref c))) := hr.mono (by decide)
  obtain ⟨tC, hPC, hC⟩ := right_check (P := P) (w := w) (base := base) (c := c) F G2 f A outer s H E hr
  refine ⟨_, pss_cons (ps_set (i := 8) scLRight.nd rfl (Or.inr rfl) (pe_cal G1 (hr.mono (by decide)) (by rfl) pass0 (pa_cons (pv 0) (pa_cons (pe_lst (pa_cons pe_int (pa_cons pe_int (pa_cons pe_int (pa_cons pe_int (pa_cons pe_int (pa_cons pe_int (pa_cons (pe_op op_sub pe_int pe_int) (pa_cons pe_non (pa_cons pe_bl pa_nil)))))))))) pa_nil))))
    (pss_cons (ps_set (i := 9) scLRight.nd rfl (Or.inl rfl) (pe_ifExp (pt_cmpR op_eq (pv 5) pe_int (nomark _)) (pe_op op_sub (pe_callB call_len (by rfl) (F.b "len" (by decide)) boot_len (pa_cons (pv 2) pa_nil)) pe_int) (pe_callB call_len (by rfl) (F.b "len" (by decide)) boot_len (pa_cons (pv 3) pa_nil))))
    (pss_cons (ps_if (pt_cmpR op_eq (pv 5) pe_int (nomark _)) (pss_one (ps_set (i := 10) scLRight.nd rfl (Or.inl rfl) (pe_lamto (T := T) (j := 8) (t := fun E => tMeth (aS K) "undo" (spUndo K) [] E (tVar 1) (tCons (tVar 8) tNil)) GH rfl hm hk hb D.tb rfl hmT hu r8 (lamS_by (show lamSB (defScope sLRight) _ = true by decide +kernel)) (fun A outer s H E f c' hr2 => pe_calm Ts.cl M1 hr2 passL (pv 1) (pa_cons (pv 8) pa_nil)))))
      (pss_one (ps_set (i := 10) scLRight.nd rfl (Or.inl rfl) (pe_lamto (T := T) (j := 8) (t := fun E => tMeth (aS K) "redo" (spRedo K) [] E (tVar 1) (tCons (tVar 8) tNil)) GH rfl hm hk hb D.tb rfl hmT hu r8 (lamS_by (show lamSB (defScope sLRight) _ = true by decide +kernel)) (fun A outer s H E f c' hr2 => pe_calm Ts.cl M2 hr2 passL (pv 1) (pa_cons (pv 8) pa_nil))))))
    (by exact hPC))), ?_⟩
  intro H0 H1 l p dx lp lf an cur rl ul rd past fut rds uds n wv u4 u6 u7 u8 u9 u10 u11 u12 Q N Bk Ct h hn40 hN
  refine ⟨_, rfl, _, _, rfl, rfl, ?_⟩
  refine ⟨by show 9 ≤ sizeLine; rw [sizeLine_eq]; decide, fun a ha => ?_⟩
  have hal : a ≠ l := fun z => h.bowl.ne (z ▸ ha)
  have s1 := same_laid (o := .lst [.int 0, .int 1, .int 1, .int 2, .int 3, .int 9, .int (0 - 1), .non, .bl true]) ha
  refine ⟨l, _, rfl, h.bowl.same s1, .inr ⟨a, _, rfl, upd_same, hal, by simp, by simp, fun y H2 hy k2 hB2 => ?_⟩⟩
  have hyk : AtK y := by
    simp only [List.mem_cons, List.not_mem_nil, or_false] at hy
    rcases hy with e | e | e | e | e | e | e | e | e <;> rw [e]
    · exact atk_int (by decide) (by decide)
    · exact atk_int (by decide) (by decide)
    · exact atk_int (by decide) (by decide)
    · exact atk_int (by decide) (by decide)
    · exact atk_int (by decide) (by decide)
    · exact atk_int (by decide) (by decide)
    · exact atk_int (by decide) (by decide)
    · exact atk_non
    · exact atk_bl true
  obtain ⟨d, ay, hok⟩ := hyk
  have h2 : RS K T H0 H2 l p dx lp lf an past cur fut rl ul rds rd uds n := by
    have kk : Kp [l] H1 H2 := (Kp.of s1).trans k2
    have pl : p ≠ l := bowl_ne h.bowl h.shf.at_ (fun xs z => by cases z)
    have anl : an ≠ l := bowl_ne h.bowl h.shf.an_ (fun xs z => by cases z)
    exact h.quiet (kk.kt.wide fun c hc => .inl (by simp at hc ⊢; exact .inl hc)) hB2 (kk.tabs h.bowl.mu h.tabs) (h.shf.kt kk.kt (by simpa using pl) (by simpa using Ne.symm h.n4) (by simpa using Ne.symm h.n5) (by simpa using anl))
  clear hy k2 s1 hal ha
  have lr : ((rds ++ [rd]).map V.ref).length = past.length + 1 := by
    rw [List.length_map, List.length_append, List.length_singleton, h.lvP.length]
  have lu : (uds.map V.ref).length = fut.length := by rw [List.length_map, h.lvF.length]
  have ndp : (([] : List Addr)) = [] := rfl
  -- nothing has been done
  have q0 : ∀ H', Kt [] H2 H' → Tabs T H' → RS K T H0 H' l p dx lp lf an past cur fut rl ul rds rd uds (n + 1) := fun H' k T' => (h2.quiet (k.wide fun c hc => by cases hc) (h2.bowl.kt k (by simp)) T' (h2.shf.kt k (by simp) (by simp) (by simp) (by simp))).more (by omega) hn40
  have finN : ∀ H' (far : Nat) (t : Addr), Kt [] H2 H' → Tabs T H' → N (sS l p rl ul u4 wv u6 u7 y far t u11 u12) H' := fun H' far t k T' => hN H' lp lf an cur rl ul rd past fut rds uds _ _ _ _ _ _ (q0 H' k T')
  have bad : ∀ (H3 : Hp) (far : Nat) (t : Addr) (s0 : Str), ExtN H2 H3 → Tabs T H3 → ∀ H4, Same H3 H4 → (∀ H', Same (upd H4 t (.tup [.str "raised", .str s0])) H' → H4 t = none → N (sS l p rl ul u4 wv u6 u7 y far t u11 u12) H') := fun H3 far t s0 eN T3 H4 s4 H' s5 ht => by
    have sm : Same H3 H' := s4.trans ((same_laid ht).trans s5)
    exact finN H' far t ((Kt.of eN).trans (Kp.of sm).kt) ((Kp.of sm : Kp [] H3 H').tabs (Mu.nil _) T3)
  have wfF : (∀ i, d = .int i → i < 0) → wf 0 d = false := fun hn => by
    cases d with
    | int i => exact decide_eq_false (by have := hn i rfl; omega)
    | _ => rfl
  have rowsOf : ∀ {H' : Hp}, Kt [] H2 H' → H' rl = some (.lst ((rds ++ [rd]).map V.ref)) ∧ H' ul = some (.lst (uds.map V.ref)) := fun k => ⟨k _ _ h2.rows (by simp) (fun ps z => by cases z), k _ _ h2.und (by simp) (fun ps z => by cases z)⟩
  have lens : (rds ++ [rd]).length ≤ 100 ∧ uds.length ≤ 100 := by
    have a1 := h.lvP.length
    have a2 := h.lvF.length
    have a3 := h.len
    rw [List.length_append, List.length_singleton]
    omega
  have raised : ∀ (far : Nat) (H3 : Hp) (s0 : Str), ExtN H2 H3 → Tabs T H3 → ((wf 0 d = false ∧ s0 = "number " ++ d.shown) ∨ (∃ k : Nat, d = .int (k : Int) ∧ far < k ∧ s0 = "nothing " ++ d.shown)) →
      RaiseQ (fun v H' => tC { nx := N, rt := Q, bk := Bk, ct := Ct } [some (.ref l), some (.ref p), some (.ref rl), some (.ref ul), u4, some (.int (wv : Int)), u6, u7, some y, some (.int (far : Int)), some v, u11, u12] H') s0 H3 := fun far H3 s0 eN T3 hs0 H4 t s4 ht => by
    have k4 : Kt [] H2 (upd H4 t (.tup [.str "raised", .str s0])) := (Kt.of eN).trans (Kp.of (s4.trans (same_laid ht))).kt
    obtain ⟨r1, r2⟩ := rowsOf k4
    refine hC _ l p rl ul t (rds ++ [rd]) uds u4 u6 u7 u11 u12 wv far y d 0 Q N Bk Ct ay hok r1 r2 h.n3 lens.1 lens.2 (fun e => ?_) (fun k e hk => ?_) (fun k e hk => ?_)
    · rcases hs0 with ⟨_, rfl⟩ | ⟨k, e2, _, _⟩
      · exact ⟨upd_same, fun H' s5 => bad H3 far t _ eN T3 H4 s4 H' s5 ht⟩
      · rw [e2] at e
        exact absurd (wf_nat k) (by rw [e]; decide)
    · rcases hs0 with ⟨e2, _⟩ | ⟨k2, _, _, rfl⟩
      · rw [e] at e2
        exact absurd (wf_nat k) (by rw [e2]; decide)
      · exact ⟨upd_same, fun H' s5 => bad H3 far t _ eN T3 H4 s4 H' s5 ht⟩
    · exfalso
      rcases hs0 with ⟨e2, _⟩ | ⟨k2, e2, hk2, _⟩
      · rw [e] at e2
        exact absurd (wf_nat k) (by rw [e2]; decide)
      · rw [e] at e2
        injection e2 with e2
        omega
  have hcs : ∀ (k : Nat), Kt [p, lp, lf] H2 H2 := fun _ => Kt.refl _ _
  have lvA : Paired (Lv H2) (past ++ [cur]) (rds ++ [rd]) := paired_app h2.lvP h2.lvC
  have sh3 : ∀ H3, ExtN H2 H3 → Shf K H3 p dx lp lf an past cur fut := fun H3 eN => h2.shf.kt (Kt.of eN : Kt [] H2 H3) (by simp) (by simp) (by simp) (by simp)
  have lp1 : past.length ≤ 1000 := by have := h.len; omega
  have lf1 : fut.length ≤ 1000 := by have := h.len; omega
  -- the shelf has moved, and it is told
  have moved : ∀ (H3 H4 H' : Hp) (t : Addr) (o : L2.HO) (past' fut' rds' uds' : List Addr) (cur' rd' : Addr), ExtN H2 H3 → Tabs T H3 → Kp [p, lp, lf] H3 H4 → Shf K H4 p dx lp lf an past' cur' fut' → H4 t = none → Kp [rl, ul] (upd H4 t o) H' → H' rl = some (.lst ((rds' ++ [rd']).map V.ref)) → H' ul = some (.lst (uds'.map V.ref)) →
      Paired (Lv H2) past' rds' → Lv H2 cur' rd' → Paired (Lv H2) fut' uds' → past'.length + fut'.length = past.length + fut.length → RS K T H0 H' l p dx lp lf an past' cur' fut' rl ul rds' rd' uds' (n + 1) := fun H3 H4 H' t o past' fut' rds' uds' cur' rd' eN T3 k3 s4 ht k5 hr hu l1 l2 l3 hlen => by
    have sh3 := sh3 H3 eN
    have m3 : Mu H3 [p, lp, lf] := sh3.mu
    have st : Same H4 (upd H4 t o) := same_laid ht
    have rp : rl ≠ p := ne_of h2.rows h2.shf.at_ (by intro z; cases z)
    have up : ul ≠ p := ne_of h2.und h2.shf.at_ (by intro z; cases z)
    have kk : Kt [p, lp, lf, rl, ul] H2 H' := fun b ob e nb nt => by
      simp at nb
      have e3 := eN b ob e nt
      have e4 := k3 b ob e3 (by simp; exact ⟨nb.1, nb.2.1, nb.2.2.1⟩)
      exact k5 b ob (st _ _ e4) (by simp; exact ⟨nb.2.2.2.1, nb.2.2.2.2⟩)
    have r4 : ∀ {b : Addr} {xs : List V}, H2 b = some (.lst xs) → b ≠ lp → b ≠ lf → b ≠ p → (upd H4 t o) b = some (.lst xs) := fun e n1 n2 n3 => st _ _ (k3 _ _ (eN _ _ e (fun ps z => by cases z)) (by simp; exact ⟨n3, n1, n2⟩))
    have m5 : Mu (upd H4 t o) [rl, ul] := Mu.cons (r4 h2.rows h2.n6 h2.n7 rp) True.intro (Mu.cons (r4 h2.und h2.n8 h2.n9 up) True.intro (Mu.nil _))
    have T4 : Tabs T (upd H4 t o) := (Kp.of st : Kp [] H4 _).tabs (Mu.nil _) (k3.tabs m3 T3)
    have ar : an ≠ rl := ne_of h2.shf.an_ h2.rows (by intro z; cases z)
    have au : an ≠ ul := ne_of h2.shf.an_ h2.und (by intro z; cases z)
    refine (h2.more (m := n + 1) (by omega) hn40).moved kk (k5.tabs m5 T4) ((s4.same st).kt k5.kt (by simp; exact ⟨Ne.symm rp, Ne.symm up⟩) (by simp; exact ⟨Ne.symm h2.n6, Ne.symm h2.n8⟩) (by simp; exact ⟨Ne.symm h2.n7, Ne.symm h2.n9⟩) (by simp; exact ⟨ar, au⟩)) hr hu l1 l2 l3 ?_
    have := h2.len
    omega
  refine ⟨_, rfl, rfl, _, rfl, ?_⟩
  show (if decide (V.int (wv : Int) = V.int 6) = true then _ else _)
  by_cases hw6 : wv = 6
  · rw [decide_eq_true (by rw [hw6]; rfl)]
    refine iteT ⟨_, rfl, _, ((rds ++ [rd]).map V.ref).length, rfl, .inl ⟨_, SqL.of h2.rows, rfl⟩, _, _, rfl, rfl, ?_⟩
    have ef : (fun i j : Int => V.int (i - j)) ((((rds ++ [rd]).map V.ref).length : Nat) : Int) 1 = V.int (past.length : Int) := congrArg V.int (by rw [lr]; omega)
    rw [ef]
    refine ⟨_, rfl, rfl, _, rfl, ?_⟩
    show (if decide (V.int (wv : Int) = V.int 6) = true then _ else _)
    rw [decide_eq_true (by rw [hw6]; rfl)]
    refine iteT ⟨h2.tabs, fun H3 eN T3 => ?_⟩
    refine ⟨_, rfl, p, dx, _, rfl, (sh3 H3 eN).at_, rfl, _, rfl, p, dx, lp, lf, an, past, cur, fut, y, d, rfl, sh3 H3 eN, lp1, lf1, ay.dv H3, fun past' cur' back ed eE H4 k3 s4 => ⟨two_le, fun t ht => ?_⟩, fun i ei h0 h1 => ?_, fun hneg => ?_⟩
    · have k4 : Kt [p, lp, lf] H2 (upd H4 t (.tup [.str "told", .int (past'.length : Int)])) := ((Kt.of eN : Kt [p, lp, lf] H2 H3).trans k3.kt).trans (Kp.of (same_laid ht)).kt
      have rp : rl ≠ p := ne_of h2.rows h2.shf.at_ (by intro z; cases z)
      have up : ul ≠ p := ne_of h2.und h2.shf.at_ (by intro z; cases z)
      have r1 := k4 _ _ h2.rows (by simp; exact ⟨rp, h2.n6, h2.n7⟩) (fun ps z => by cases z)
      have r2 := k4 _ _ h2.und (by simp; exact ⟨up, h2.n8, h2.n9⟩) (fun ps z => by cases z)
      have lE := congrArg List.length eE
      simp only [List.length_append, List.length_singleton] at lE
      have lra : (rds ++ [rd]).length = past.length + 1 := by rw [List.length_append, List.length_singleton, h.lvP.length]
      refine hC _ l p rl ul t (rds ++ [rd]) uds u4 u6 u7 u11 u12 wv past.length y d (past'.length : Int) Q N Bk Ct ay hok r1 r2 h.n3 lens.1 lens.2 (fun e => ?_) (fun k e hk => ?_) (fun k e hk => ⟨upd_same, fun _ => ⟨?_, ?_, fun H' v11 k5 hr hu => ?_⟩, fun e => absurd hw6 e⟩)
      · rw [ed, wf_nat] at e
        cases e
      · rw [ed] at e
        injection e with e
        omega
      · rw [ed] at e
        injection e with e
        omega
      · rw [ed] at e
        injection e with e
        omega
      · have ek : k = back.length := by
          rw [ed] at e
          injection e with e
          omega
        have em : (rds ++ [rd]).length - k = past'.length + 1 := by omega
        rw [em] at hr hu
        have t1 : (past ++ [cur]).take (past'.length + 1) = past' ++ [cur'] := by
          rw [eE]
          exact List.take_left' (by simp)
        have t2 : (past ++ [cur]).drop (past'.length + 1) = back := by
          rw [eE]
          exact List.drop_left' (by simp)
        have pT := paired_take (past'.length + 1) lvA
        have pD := paired_drop (past'.length + 1) lvA
        rw [t1] at pT
        rw [t2] at pD
        obtain ⟨rds', rd', e1, l1, l2⟩ := paired_split pT
        rw [e1] at hr
        exact hN H' lp lf an cur' rl ul rd' past' (fut ++ back.reverse) rds' _ _ _ _ _ _ _ (moved H3 H4 H' t _ past' (fut ++ back.reverse) rds' (uds ++ ((rds ++ [rd]).drop (past'.length + 1)).reverse) cur' rd' eN T3 k3 s4 ht k5 hr hu l1 l2 (paired_append h2.lvF (paired_rev pD)) (by rw [List.length_append, List.length_reverse]; omega))
    · refine bad_noth ay (raised past.length H3 _ eN T3 (.inr ⟨i.toNat, by rw [ei, Int.toNat_of_nonneg h0], by omega, rfl⟩))
    · refine bad_num ay (raised past.length H3 _ eN T3 (.inl ⟨wfF hneg, rfl⟩))
  · rw [decide_eq_false (fun z => hw6 (by injection z with z; omega))]
    refine iteF ⟨_, rfl, _, (uds.map V.ref).length, rfl, .inl ⟨_, SqL.of h2.und, rfl⟩, ?_⟩
    rw [lu]
    refine ⟨_, rfl, rfl, _, rfl, ?_⟩
    show (if decide (V.int (wv : Int) = V.int 6) = true then _ else _)
    rw [decide_eq_false (fun z => hw6 (by injection z with z; omega))]
    refine iteF ⟨h2.tabs, fun H3 eN T3 => ?_⟩
    refine ⟨_, rfl, p, dx, _, rfl, (sh3 H3 eN).at_, rfl, _, rfl, p, dx, lp, lf, an, past, cur, fut, y, d, rfl, sh3 H3 eN, lp1, lf1, ay.dv H3, fun past' cur' fut' back ed eF eE H4 k3 s4 => ⟨two_le, fun t ht => ?_⟩, fun i ei h0 h1 => ?_, fun hneg => ?_⟩
    · have k4 : Kt [p, lp, lf] H2 (upd H4 t (.tup [.str "told", .int (past'.length : Int)])) := ((Kt.of eN : Kt [p, lp, lf] H2 H3).trans k3.kt).trans (Kp.of (same_laid ht)).kt
      have rp : rl ≠ p := ne_of h2.rows h2.shf.at_ (by intro z; cases z)
      have up : ul ≠ p := ne_of h2.und h2.shf.at_ (by intro z; cases z)
      have r1 := k4 _ _ h2.rows (by simp; exact ⟨rp, h2.n6, h2.n7⟩) (fun ps z => by cases z)
      have r2 := k4 _ _ h2.und (by simp; exact ⟨up, h2.n8, h2.n9⟩) (fun ps z => by cases z)
      have lE := congrArg List.length eE
      have lF := congrArg List.length eF
      simp only [List.length_append, List.length_singleton, List.length_reverse] at lE lF
      have lra : (rds ++ [rd]).length = past.length + 1 := by rw [List.length_append, List.length_singleton, h.lvP.length]
      have lua : uds.length = fut.length := h.lvF.length.symm
      refine hC _ l p rl ul t (rds ++ [rd]) uds u4 u6 u7 u11 u12 wv fut.length y d (past'.length : Int) Q N Bk Ct ay hok r1 r2 h.n3 lens.1 lens.2 (fun e => ?_) (fun k e hk => ?_) (fun k e hk => ⟨upd_same, fun e => absurd e hw6, fun _ => ⟨?_, ?_, ?_, fun H' v11 k5 hu hr => ?_⟩⟩)
      · rw [ed, wf_nat] at e
        cases e
      · rw [ed] at e
        injection e with e
        omega
      · rw [ed] at e
        injection e with e
        omega
      · omega
      · rw [ed] at e
        injection e with e
        omega
      · have ek : k = back.length := by
          rw [ed] at e
          injection e with e
          omega
        have em : uds.length - k = fut'.length := by omega
        rw [em] at hr hu
        have t1 : fut.take fut'.length = fut' := by
          rw [eF]
          exact List.take_left
        have t2 : fut.drop fut'.length = back := by
          rw [eF]
          exact List.drop_left
        have pT := paired_take fut'.length h2.lvF
        have pD := paired_drop fut'.length h2.lvF
        rw [t1] at pT
        rw [t2] at pD
        have pA := paired_append lvA (paired_rev pD)
        rw [← eE] at pA
        obtain ⟨rds', rd', e1, l1, l2⟩ := paired_split pA
        rw [e1] at hr
        exact hN H' lp lf an cur' rl ul rd' past' fut' rds' _ _ _ _ _ _ _ (moved H3 H4 H' t _ past' fut' rds' (uds.take fut'.length) cur' rd' eN T3 k3 s4 ht k5 hr hu l1 l2 pT (by omega))
    · refine bad_noth ay (raised fut.length H3 _ eN T3 (.inr ⟨i.toNat, by rw [ei, Int.toNat_of_nonneg h0], by omega, rfl⟩))
    · refine bad_num ay (raised fut.length H3 _ eN T3 (.inl ⟨wfF hneg, rfl⟩))
end
end T83

set_option Elab.async false
set_option linter.all false
set_option maxRecDepth 100000
set_option maxHeartbeats 4000000
namespace T83
open PySem PySem.Spec PyProof.Rows L2 RZ LamX
section
variable {P : Program} {w : World} {K : PySem.W.Frag} {mg : Str → Option Value} {base : Heap}
theorem right_turn {c Pt : Addr} {T : List (Addr × Str)} (F : Fx K mg) (Ts : Fs K mg) (D : AtC K mg base "_law_right" sLRight c Pt) (hmT : (Pt, ("_law_right.<locals>.<lambda>" : Str)) ∈ T) (hu : ∀ p ∈ T, p.1 = Pt → p.2 = ("_law_right.<locals>.<lambda>" : Str)) (HO : HeardOk P w K mg base)
    (G0 : Cal P w K mg base CX0 1 "_law_scoop" ["bowl", "total"] spScoop) (G1 : Cal P w K mg base CX0 2 "_law_one_of" ["bowl", "items"] spOneOf) (G2 : Cal P w K mg base CX0 1 "_law_is_whole" ["value", "low", "high"] spLWhole)
    (G3 : Cal P w K mg base CX0 12 "_law_put_or_dropped" ["bowl", "shelf", "account"] (spLChanged K T)) (G4 : Cal P w K mg base CX0 12 "_law_changed" ["bowl", "shelf", "account"] (spLChanged K T)) (GS : CalG P w K mg base CX0 4 "_law_same" ["shelf", "account", "times_v"] (spLSame K))
    (M1 : CalM P w K mg base (L2.CX P w) 8 "undo" ["self", "many"] (spUndo K)) (M2 : CalM P w K mg base (L2.CX P w) 8 "redo" ["self", "many"] (spRedo K))
    (f : Addr) (A : Around) (outer : List Env) (s : Shared) (H : Hp) (E : XK) (gA : A.guards = some []) (hr : Room 12 (A.deeper (envOfC "_law_right" (defScope sLRight) s.heap.objs.size f (.ref c)))) :
    ∃ tT : TS, PSs (xLRight P w K mg base f c A outer s H E) (forB ((defBody sLRight).drop 1)) tT ∧
      ∀ (H0 H1 : Hp) (l p dx lp lf an cur rl ul rd : Addr) (past fut rds uds : List Addr) (n : Nat) (u4 u5 u6 u7 u8 u9 u10 u11 u12 : Option V) (Q : VK) (N Bk Ct : L2.St → Hp → Prop), RS K T H0 H1 l p dx lp lf an past cur fut rl ul rds rd uds n → n < 40 →
        (∀ H' lp' lf' an' cur' rl' ul' rd' past' fut' rds' uds' v5 v6 v7 v8 v9 v10 v11, RS K T H0 H' l p dx lp' lf' an' past' cur' fut' rl' ul' rds' rd' uds' (n + 1) → N [some (.ref l), some (.ref p), some (.ref rl'), some (.ref ul'), u4, v5, v6, v7, v8, v9, v10, v11, u12] H') →
        tT { nx := N, rt := Q, bk := Bk, ct := Ct } [some (.ref l), some (.ref p), some (.ref rl), some (.ref ul), u4, u5, u6, u7, u8, u9, u10, u11, u12] H1 := by
  obtain ⟨tO, hPO, hO⟩ := right_order (P := P) (w := w) (base := base) (c := c) F G3 G4 f A outer s H E hr
  obtain ⟨tS, hPS, hS⟩ := right_steps (P := P) (w := w) (base := base) (c := c) F Ts D hmT hu HO G1 G2 M1 M2 f A outer s H E hr
  refine ⟨_, pss_cons (ps_set (i := 5) scLRight.nd rfl (Or.inl rfl) (pe_cal G0 (hr.mono (by decide)) (by rfl) pass0 (pa_cons (pv 0) (pa_cons pe_int pa_nil))))
    (pss_cons (ps_if (pt_cmpR op_lt (pv 5) pe_int (nomark _)) (by exact hPO) (by exact hPS))
    (pss_one (ps_if (pt_not (pt_val (pe_calG GS gA (hr.mono (by decide)) (by rfl) (pa_cons (pv 1) (pa_cons (pe_ix ix_list (pv 2) (pe_un un_neg pe_int) (fun _ _ => rfl)) (pa_cons (pe_op op_sub (pe_callB call_len (by rfl) (F.b "len" (by decide)) boot_len (pa_cons (pv 2) pa_nil)) pe_int) pa_nil)))))) (pss_one (ps_ret pe_bl)) pss_nil))), ?_⟩
  intro H0 H1 l p dx lp lf an cur rl ul rd past fut rds uds n u4 u5 u6 u7 u8 u9 u10 u11 u12 Q N Bk Ct h hn40 hN
  refine ⟨_, rfl, l, 8, rfl, by decide, by decide, h.bowl, fun wv H2 hw k2 hB2 => ?_⟩
  have h2 : RS K T H0 H2 l p dx lp lf an past cur fut rl ul rds rd uds n := by
    have pl : p ≠ l := bowl_ne h.bowl h.shf.at_ (fun xs z => by cases z)
    have anl : an ≠ l := bowl_ne h.bowl h.shf.an_ (fun xs z => by cases z)
    exact h.quiet (k2.kt.wide fun c hc => .inl (by simp at hc ⊢; exact .inl hc)) hB2 (k2.tabs h.bowl.mu h.tabs) (h.shf.kt k2.kt (by simpa using pl) (by simpa using Ne.symm h.n4) (by simpa using Ne.symm h.n5) (by simpa using anl))
  have same : ∀ (H' : Hp) (lp' lf' an' cur' rl' ul' rd' : Addr) (past' fut' rds' uds' : List Addr) (m : Nat), RS K T H0 H' l p dx lp' lf' an' past' cur' fut' rl' ul' rds' rd' uds' m → ∀ Q' Ee, (∀ H'', Same H' H'' → Q' (.bl true) H'') →
      spLSame K [.ref p, .ref rd', .int ((((rds' ++ [rd']).map V.ref).length : Nat) - 1)] H' Q' Ee := fun H' lp' lf' an' cur' rl' ul' rd' past' fut' rds' uds' m h' Q' Ee hq => by
    obtain ⟨es, fs, de, df, eac, hA, hdc⟩ := h'.lvC
    refine ⟨p, rd', dx, lp', lf', an', past', cur', fut', es, fs, ?_, h'.shf, de, df, eac, hA, by have := h'.len; have := h'.few; omega, hdc, hq⟩
    have e : ((((rds' ++ [rd']).map V.ref).length : Nat) : Int) - 1 = ((past'.length : Nat) : Int) := by
      rw [List.length_map, List.length_append, List.length_singleton, h'.lvP.length]
      omega
    rw [e]
  refine ⟨_, rfl, _, _, rfl, rfl, _, rfl, ?_⟩
  by_cases hw6 : (wv : Int) < 6
  · rw [decide_eq_true hw6]
    refine iteT (hO H0 H2 l p dx lp lf an cur rl ul rd past fut rds uds n wv u4 u6 u7 u8 u9 u10 u11 u12 Q _ _ _ h2 hn40 fun H' lp' lf' an' cur' rl' ul' rd' past' fut' rds' uds' v6 v7 h' => ?_)
    have er : (rds' ++ [rd']).map V.ref = rds'.map V.ref ++ [V.ref rd'] := by rw [List.map_append]; rfl
    refine ⟨_, rfl, _, rfl, _, rfl, rl', _, -1, .ref rd', rfl, rfl, SqL.of (by rw [← er]; exact h'.rows), atI_last _ _, _, rfl, _, ((rds' ++ [rd']).map V.ref).length, rfl, .inl ⟨_, SqL.of h'.rows, rfl⟩, _, _, rfl, rfl, ?_⟩
    unfold tNil
    dsimp only [List.cons_append, List.nil_append]
    refine same H' lp' lf' an' cur' rl' ul' rd' past' fut' rds' uds' (n + 1) h' _ _ fun H'' sm => ⟨_, rfl, iteF ?_⟩
    exact hN H'' lp' lf' an' cur' rl' ul' rd' past' fut' rds' uds' _ _ _ _ _ _ _ (h'.same sm)
  · rw [decide_eq_false hw6]
    refine iteF (hS H0 H2 l p dx lp lf an cur rl ul rd past fut rds uds n wv u4 u6 u7 u8 u9 u10 u11 u12 Q _ _ _ h2 hn40 fun H' lp' lf' an' cur' rl' ul' rd' past' fut' rds' uds' v6 v7 v8 v9 v10 v11 h' => ?_)
    have er : (rds' ++ [rd']).map V.ref = rds'.map V.ref ++ [V.ref rd'] := by rw [List.map_append]; rfl
    refine ⟨_, rfl, _, rfl, _, rfl, rl', _, -1, .ref rd', rfl, rfl, SqL.of (by rw [← er]; exact h'.rows), atI_last _ _, _, rfl, _, ((rds' ++ [rd']).map V.ref).length, rfl, .inl ⟨_, SqL.of h'.rows, rfl⟩, _, _, rfl, rfl, ?_⟩
    unfold tNil
    dsimp only [List.cons_append, List.nil_append]
    refine same H' lp' lf' an' cur' rl' ul' rd' past' fut' rds' uds' (n + 1) h' _ _ fun H'' sm => ⟨_, rfl, iteF ?_⟩
    exact hN H'' lp' lf' an' cur' rl' ul' rd' past' fut' rds' uds' _ _ _ _ _ _ _ (h'.same sm)
end
end T83

set_option Elab.async false
set_option linter.all false
set_option maxRecDepth 100000
set_option maxHeartbeats 4000000
namespace T83
open PySem PySem.Spec PyProof.Rows L2 RZ LamX
section
variable {P : Program} {w : World} {K : PySem.W.Frag} {mg : Str → Option Value} {base : Heap}
/-- ('a', (((0, ((0, 1),)),),)) -/
def mOne : Mach := ("a", [[(0, [(0, 1)])]])
theorem mOne_ok : okM mOne = true := by decide +kernel
theorem one_tp {H : Hp} {t1 t2 t3 t4 t5 t6 : Addr} {u2 : L2.HO} (hu2 : TuB true [.ref t1] u2) (ht1 : H t1 = none) (ht2 : (upd H t1 (.tup [.int 0, .int 1])) t2 = none) (ht3 : (upd (upd H t1 (.tup [.int 0, .int 1])) t2 u2) t3 = none) (ht4 : (upd (upd (upd H t1 (.tup [.int 0, .int 1])) t2 u2) t3 (.tup [.int 0, .ref t2])) t4 = none)
    (ht5 : (upd (upd (upd (upd H t1 (.tup [.int 0, .int 1])) t2 u2) t3 (.tup [.int 0, .ref t2])) t4 (.tup [.ref t3])) t5 = none) (ht6 : (upd (upd (upd (upd (upd H t1 (.tup [.int 0, .int 1])) t2 u2) t3 (.tup [.int 0, .ref t2])) t4 (.tup [.ref t3])) t5 (.tup [.ref t4])) t6 = none) :
    Same H (upd (upd (upd (upd (upd (upd H t1 (.tup [.int 0, .int 1])) t2 u2) t3 (.tup [.int 0, .ref t2])) t4 (.tup [.ref t3])) t5 (.tup [.ref t4])) t6 (.tup [.str "a", .ref t5])) ∧
      Tp (upd (upd (upd (upd (upd (upd H t1 (.tup [.int 0, .int 1])) t2 u2) t3 (.tup [.int 0, .ref t2])) t4 (.tup [.ref t3])) t5 (.tup [.ref t4])) t6 (.tup [.str "a", .ref t5])) (.ref t6) (dM mOne) := by
  have s1 := same_laid (o := .tup [.int 0, .int 1]) ht1
  have e1 : (upd H t1 (.tup [.int 0, .int 1])) t1 = some (.tup [.int 0, .int 1]) := upd_same
  generalize upd H t1 (.tup [.int 0, .int 1]) = J1 at *
  have s2 := same_laid (o := u2) ht2
  have e2 : (upd J1 t2 u2) t2 = some u2 := upd_same
  generalize upd J1 t2 u2 = J2 at *
  have s3 := same_laid (o := .tup [.int 0, .ref t2]) ht3
  have e3 : (upd J2 t3 (.tup [.int 0, .ref t2])) t3 = some (.tup [.int 0, .ref t2]) := upd_same
  generalize upd J2 t3 (.tup [.int 0, .ref t2]) = J3 at *
  have s4 := same_laid (o := .tup [.ref t3]) ht4
  have e4 : (upd J3 t4 (.tup [.ref t3])) t4 = some (.tup [.ref t3]) := upd_same
  generalize upd J3 t4 (.tup [.ref t3]) = J4 at *
  have s5 := same_laid (o := .tup [.ref t4]) ht5
  have e5 : (upd J4 t5 (.tup [.ref t4])) t5 = some (.tup [.ref t4]) := upd_same
  generalize upd J4 t5 (.tup [.ref t4]) = J5 at *
  have s6 := same_laid (o := .tup [.str "a", .ref t5]) ht6
  have e6 : (upd J5 t6 (.tup [.str "a", .ref t5])) t6 = some (.tup [.str "a", .ref t5]) := upd_same
  generalize upd J5 t6 (.tup [.str "a", .ref t5]) = J6 at *
  have a5 := s5.trans s6
  have a4 := s4.trans a5
  have a3 := s3.trans a4
  have a2 := s2.trans a3
  refine ⟨s1.trans a2, .tup e6 (.cons (.str _) (.cons (.tup (s6 _ _ e5) (.cons (.tup (a5 _ _ e4) (.cons (.tup (a4 _ _ e3) (.cons (.int _) (.cons (tp_of (ds := [dQ (0, 1)]) hu2 (a3 _ _ e2) (.cons (.tup (a2 _ _ e1) (.cons (.int _) (.cons (.int _) .nil))) .nil)) .nil))) .nil)) .nil)) .nil))⟩
theorem right_end {c : Addr} {T : List (Addr × Str)} (F : Fx K mg) (Ts : Fs K mg)
    (GS : CalG P w K mg base CX0 4 "_law_same" ["shelf", "account", "times_v"] (spLSame K)) (MT : CalM P w K mg base CX0 3 "twin" ["self"] (spTwin K)) (ME : CalM P w K mg base CX0 1 "__eq__" ["self", "other"] (spEqS K)) (MP : CalM P w K mg base (L2.CX P w) 8 "put" ["self", "name", "machine"] (spPut K)) (MH : CalM P w K mg base CX0 1 "__contains__" ["self", "name"] (spHas K))
    (f : Addr) (A : Around) (outer : List Env) (s : Shared) (H : Hp) (E : XK) (gA : A.guards = some []) (hr : Room 12 (A.deeper (envOfC "_law_right" (defScope sLRight) s.heap.objs.size f (.ref c)))) :
    ∃ tT : TS, PSs (xLRight P w K mg base f c A outer s H E) ((defBody sLRight).drop 2) tT ∧
      ∀ (H0 H1 : Hp) (l p dx lp lf an cur rl ul rd : Addr) (past fut rds uds : List Addr) (n : Nat) (u4 u5 u6 u7 u8 u9 u10 u11 u12 : Option V) (Q : VK) (N : L2.St → Hp → Prop), RS K T H0 H1 l p dx lp lf an past cur fut rl ul rds rd uds n →
        (∀ H', Kt [l] H0 H' → Tabs T H' → Q (.bl true) H') →
        tT { nx := N, rt := Q } [some (.ref l), some (.ref p), some (.ref rl), some (.ref ul), u4, u5, u6, u7, u8, u9, u10, u11, u12] H1 := by
  refine ⟨_, pss_cons (ps_set (i := 12) scLRight.nd rfl (Or.inl rfl) (pe_calm0 Ts.cl MT (hr.mono (by decide)) pass0 (pv 1)))
    (pss_cons (ps_if (pw_or (pt_not (pt_val (pe_calG GS gA (hr.mono (by decide)) (by rfl) (pa_cons (pv 12) (pa_cons (pe_ix ix_list (pv 2) (pe_un un_neg pe_int) (fun _ _ => rfl)) (pa_cons (pe_op op_sub (pe_callB call_len (by rfl) (F.b "len" (by decide)) boot_len (pa_cons (pv 2) pa_nil)) pe_int) pa_nil))))))
        (pw_or (pt_cmpR (op_neO (CalM.spc ME) Ts.ne Ts.ob (hr.mono (by decide))) (pv 12) (pv 1) (nomark _))
        (pw_or (pt_not (pt_cmpR (op_eqO (CalM.spc ME) (hr.mono (by decide))) (pv 12) (pv 1) (nomark _))) (pw_or1 (pt_cmpR (op_eqO (CalM.spc ME) (hr.mono (by decide))) (pv 1) pe_int (nomark _)))))).pt (pss_one (ps_ret pe_bl)) pss_nil)
    (pss_cons (ps_expr (pe_calm Ts.cl MP (hr.mono (by decide)) passNo (pv 12) (pa_cons pe_str (pa_cons (pe_tup (pa_cons pe_str (pa_cons (pe_tup (pa_cons (pe_tup (pa_cons (pe_tup (pa_cons pe_int (pa_cons (pe_tupF true (pa_cons (pe_tup (pa_cons pe_int (pa_cons pe_int pa_nil))) pa_nil)) pa_nil))) pa_nil)) pa_nil)) pa_nil))) pa_nil))))
    (pss_one (ps_ret (pe_and (pe_calG GS gA (hr.mono (by decide)) (by rfl) (pa_cons (pv 1) (pa_cons (pe_ix ix_list (pv 2) (pe_un un_neg pe_int) (fun _ _ => rfl)) (pa_cons (pe_op op_sub (pe_callB call_len (by rfl) (F.b "len" (by decide)) boot_len (pa_cons (pv 2) pa_nil)) pe_int) pa_nil))))
        (pe_and (pe_cmpR (op_inO (CalM.spc MH) (hr.mono (by decide))) pe_str (pv 12) (by rfl)) (pe_one (pe_cmpR (op_neO (CalM.spc ME) Ts.ne Ts.ob (hr.mono (by decide))) (pv 12) (pv 1) (nomark _))))))))), ?_⟩
  intro H0 H1 l p dx lp lf an cur rl ul rd past fut rds uds n u4 u5 u6 u7 u8 u9 u10 u11 u12 Q N h hq
  obtain ⟨es, fs, de, df, eac, hA, hdc⟩ := id h.lvC
  have hAe : AOk (accE es) := by rw [eac]; exact hA
  have hel : es.length ≤ 5 := by
    have := hAe.len
    rw [accE_len] at this
    exact this
  have hpl : past.length ≤ 1000 := by have := h.len; have := h.few; omega
  have er : (rds ++ [rd]).map V.ref = rds.map V.ref ++ [V.ref rd] := by rw [List.map_append]; rfl
  have elen : ((((rds ++ [rd]).map V.ref).length : Nat) : Int) - 1 = ((past.length : Nat) : Int) := by
    rw [List.length_map, List.length_append, List.length_singleton, h.lvP.length]
    omega
  have hself : ∀ q ∈ kvE es, valV (kvE es) q.1 = some q.2 ∧ ∃ a, q.2 = V.ref a := fun q hq2 => by
    obtain ⟨e, he, rfl⟩ := List.mem_map.mp hq2
    refine ⟨?_, (de.ok e he).1⟩
    rw [kvE_get, getA_of hAe.ndE (k := e.1) (v := e.2) he]
    rfl
  refine ⟨_, rfl, p, dx, _, rfl, h.shf.at_, rfl, p, dx, lp, lf, an, past, cur, fut, kvE es, rfl, h.shf, de.at_, fun H2 p' dx' lp' lf' an' cur' s2 n1 n2 n3 n4 hc' sh' => ?_⟩
  have h2 := h.same s2
  have de2 := de.same s2
  have df2 := df.same s2
  have deT : DE H2 cur' es := ⟨hc', de2.ok⟩
  have rdc : rd ≠ cur' := ne_of_none df.at_ n4
  refine ⟨_, rfl, _, rfl, _, rfl, rl, _, -1, .ref rd, rfl, rfl, SqL.of (by rw [← er]; exact h2.rows), atI_last _ _, _, rfl, _, ((rds ++ [rd]).map V.ref).length, rfl, .inl ⟨_, SqL.of h2.rows, rfl⟩, _, _, rfl, rfl, ?_⟩
  unfold tNil
  dsimp only [List.cons_append, List.nil_append]
  refine ⟨p', rd, dx', lp', lf', an', past, cur', fut, es, fs, by rw [elen], sh', deT, df2, eac, hA, hpl, rdc, fun H3 s3 => ⟨_, rfl, iteF ?_⟩⟩
  have sA := s2.trans s3
  have h3 := h.same sA
  have sh3 := sh'.same s3
  refine ⟨_, rfl, _, rfl, p', dx', _, rfl, sh3.at_, .inl ⟨p, dx, _, rfl, h3.shf.at_⟩, p', dx', cur', lp', lf', an', .ref p, rfl, sh3.at_, .inr ⟨p, dx, cur, lp, lf, an, true, rfl, h3.shf.at_, ⟨cur', cur, kvE es, kvE es, rfl, rfl, s3 _ _ hc', (de.same sA).at_, .inr ⟨rfl, hself, rfl⟩⟩, ?_⟩⟩
  refine ⟨_, rfl, _, rfl, iteF ?_⟩
  refine ⟨_, rfl, _, rfl, p', dx', _, rfl, sh3.at_, .inl ⟨p, dx, _, rfl, h3.shf.at_⟩, p', dx', cur', lp', lf', an', .ref p, rfl, sh3.at_, .inr ⟨p, dx, cur, lp, lf, an, true, rfl, h3.shf.at_, ⟨cur', cur, kvE es, kvE es, rfl, rfl, s3 _ _ hc', (de.same sA).at_, .inr ⟨rfl, hself, rfl⟩⟩, ?_⟩⟩
  refine ⟨_, rfl, _, rfl, iteF ?_⟩
  refine ⟨_, rfl, p, dx, _, rfl, h3.shf.at_, .inr ⟨5, rfl, Ts.intS⟩, p, dx, cur, lp, lf, an, .int 5, rfl, h3.shf.at_, .inl ⟨5, rfl, ?_⟩⟩
  refine ⟨_, rfl, _, rfl, iteF ?_⟩
  -- put
  refine ⟨_, rfl, p', dx', _, rfl, sh3.at_, rfl, two_le2, fun t1 ht1 => ⟨by show 1 ≤ sizeLine; rw [sizeLine_eq]; decide, fun t2 u2 hu2 ht2 => ⟨two_le2, fun t3 ht3 => ⟨by show 1 ≤ sizeLine; rw [sizeLine_eq]; decide, fun t4 ht4 => ⟨by show 1 ≤ sizeLine; rw [sizeLine_eq]; decide, fun t5 ht5 => ⟨two_le2, fun t6 ht6 => ?_⟩⟩⟩⟩⟩⟩
  obtain ⟨s6, htp⟩ := one_tp hu2 ht1 ht2 ht3 ht4 ht5 ht6
  generalize upd (upd (upd (upd (upd (upd H3 t1 (.tup [.int 0, .int 1])) t2 u2) t3 (.tup [.int 0, .ref t2])) t4 (.tup [.ref t3])) t5 (.tup [.ref t4])) t6 (.tup [.str "a", .ref t5]) = J at s6 htp
  have shJ := sh3.same s6
  have deJ : DE J cur' es := deT.same (s3.trans s6)
  have hq0 : getA es "q" = none := by
    cases e : getA es "q" with
    | none => rfl
    | some vm =>
      obtain ⟨v, m⟩ := vm
      exact absurd (hAe.nm ("q", m) (getA_acc (accE_some e))) (show ("q" : Str) ∉ nmL by decide +kernel)
  have e1 : isNm (.str "q") = true := by decide +kernel
  refine ⟨p', dx', lp', lf', an', past, cur', fut, es, .str "q", .str "q", .ref t6, some mOne, rfl, shJ, deJ, hpl, by omega, .tp (.str _), (fun z e => by cases e; decide +kernel), .m htp (okM_sml mOne_ok), (fun e => by rw [e1] at e; cases e), (fun _ e => by rw [show okX (some mOne) = okM mOne from rfl, mOne_ok] at e; cases e), fun z m ez em _ _ => ⟨fun h12 => by omega, fun _ v hv => ?_⟩⟩
  cases ez
  cases em
  intro H4 lf2 cu an2 h41 h42 h43 kp hcu hsh
  have sB : Same H1 H4 := fun b o e => kp b o ((sA.trans s6) b o e) (by simp; exact ⟨fun z => (by rw [z, n1] at e; cases e), fun z => (by rw [z, n2] at e; cases e)⟩)
  have h4 := h.same sB
  have de4 := de.same sB
  refine ⟨_, rfl, _, rfl, _, rfl, rl, _, -1, .ref rd, rfl, rfl, SqL.of (by rw [← er]; exact h4.rows), atI_last _ _, _, rfl, _, ((rds ++ [rd]).map V.ref).length, rfl, .inl ⟨_, SqL.of h4.rows, rfl⟩, _, _, rfl, rfl, ?_⟩
  dsimp only [List.cons_append, List.nil_append]
  refine ⟨p, rd, dx, lp, lf, an, past, cur, fut, es, fs, by rw [elen], h4.shf, de4, df.same sB, eac, hA, hpl, hdc, fun H5 s5 => ?_⟩
  have hsh5 := hsh.same s5
  have hcu5 := hcu.same s5
  have sC := sB.trans s5
  have h5 := h.same sC
  have hput : getA (accE (putA es "q" (v, mOne))) "q" = some mOne := by rw [accE_put, getA_put, if_pos rfl]
  refine ⟨_, rfl, iteT ⟨_, rfl, p', dx', _, rfl, hsh5.at_, p', dx', cu, lp', lf2, an2, putA es "q" (v, mOne), .str "q", .str "q", rfl, hsh5.at_, hcu5, .tp (.str _), _, rfl, ?_⟩⟩
  have hh : hasN (accE (putA es "q" (v, mOne))) (.str "q") = true := by
    show (getA (accE (putA es "q" (v, mOne))) "q").isSome = true
    rw [hput]
    rfl
  refine ⟨_, rfl, ?_⟩
  rw [hh]
  have hlen : (putA es "q" (v, mOne)).length = es.length + 1 := by
    rw [putA_new _ (getA_none.mp hq0), List.length_append, List.length_singleton]
  refine iteT ⟨_, rfl, _, rfl, p', dx', _, rfl, hsh5.at_, .inl ⟨p, dx, _, rfl, h5.shf.at_⟩, p', dx', cu, lp', lf2, an2, .ref p, rfl, hsh5.at_, .inr ⟨p, dx, cur, lp, lf, an, false, rfl, h5.shf.at_, ⟨cu, cur, kvE (putA es "q" (v, mOne)), kvE es, rfl, rfl, hcu5.at_, (de.same sC).at_, .inl ⟨by rw [kvE_len, kvE_len, hlen]; omega, rfl⟩⟩, ?_⟩⟩
  exact ⟨_, rfl, hq H5 h5.kt h5.tabs⟩
end
end T83

set_option Elab.async false
set_option linter.all false
set_option maxRecDepth 100000
set_option maxHeartbeats 4000000
namespace T83
open PySem PySem.Spec PyProof.Rows L2 RZ LamX
section
variable {P : Program} {w : World} {K : PySem.W.Frag} {mg : Str → Option Value} {base : Heap}
def spLRight (T : List (Addr × Str)) : Sp := fun vs H Q _ => ∃ l : Addr, vs = [.ref l] ∧ Bowl H l ∧ Tabs T H ∧ ∀ H', Kt [l] H H' → Tabs T H' → Q (.bl true) H'
theorem ok_lright {c Pt : Addr} {T : List (Addr × Str)} (F : Fx K mg) (Ts : Fs K mg) (D : AtC K mg base "_law_right" sLRight c Pt) (hmT : (Pt, ("_law_right.<locals>.<lambda>" : Str)) ∈ T) (hu : ∀ p ∈ T, p.1 = Pt → p.2 = ("_law_right.<locals>.<lambda>" : Str)) (HO : HeardOk P w K mg base)
    (G0 : Cal P w K mg base CX0 1 "_law_scoop" ["bowl", "total"] spScoop) (G1 : Cal P w K mg base CX0 2 "_law_one_of" ["bowl", "items"] spOneOf) (G2 : Cal P w K mg base CX0 1 "_law_is_whole" ["value", "low", "high"] spLWhole)
    (G3 : Cal P w K mg base CX0 12 "_law_put_or_dropped" ["bowl", "shelf", "account"] (spLChanged K T)) (G4 : Cal P w K mg base CX0 12 "_law_changed" ["bowl", "shelf", "account"] (spLChanged K T)) (GS : CalG P w K mg base CX0 4 "_law_same" ["shelf", "account", "times_v"] (spLSame K))
    (M1 : CalM P w K mg base (L2.CX P w) 8 "undo" ["self", "many"] (spUndo K)) (M2 : CalM P w K mg base (L2.CX P w) 8 "redo" ["self", "many"] (spRedo K)) (MT : CalM P w K mg base CX0 3 "twin" ["self"] (spTwin K)) (ME : CalM P w K mg base CX0 1 "__eq__" ["self", "other"] (spEqS K)) (MP : CalM P w K mg base (L2.CX P w) 8 "put" ["self", "name", "machine"] (spPut K)) (MH : CalM P w K mg base CX0 1 "__contains__" ["self", "name"] (spHas K)) :
    CalG P w K mg base CX0 13 "_law_right" ["bowl"] (spLRight T) := by
  obtain ⟨fi, fdi, Mi, bi, Fi⟩ := ok_init (P := P) (w := w) (base := base) Ts
  refine calG_ofC D scLRight (fun vs H Q E h => ?_) (fun _ _ _ _ _ _ us hl => match us, hl with | [_], _ => rfl) fun f A outer s H vs Q E gA hr h => ?_
  · obtain ⟨l, rfl, _⟩ := h
    rfl
  obtain ⟨tT, hPT, hTurn⟩ := right_turn (P := P) (w := w) (base := base) (c := c) F Ts D hmT hu HO G0 G1 G2 G3 G4 GS M1 M2 f A outer s H E gA hr
  obtain ⟨tE, hPE, hEnd⟩ := right_end (P := P) (w := w) (base := base) (c := c) (T := T) F Ts GS MT ME MP MH f A outer s H E gA hr
  refine ⟨_, PSs.nox (pss_cons (ps_asg (pe_tup (pa_cons (pe_make0 Mi Fi (hr.mono (by decide)) (by rfl) Ts.gS bi .nil pass0) (pa_cons (pe_lst (pa_cons pe_dnewK pa_nil)) (pa_cons (pe_lst pa_nil) pa_nil)))) (pg_tup (n := 3) rfl (pgs_cons (pg_name (i := 1) scLRight.nd rfl (Or.inr rfl)) (pgs_cons (pg_name (i := 2) scLRight.nd rfl (Or.inl rfl)) (pgs_cons (pg_name (i := 3) scLRight.nd rfl (Or.inl rfl)) pgs_nil)))))
    (pss_cons (ps_for PassesOwn.never rfl (pi_range1 rfl (F.b "range" (by decide)) (pa_cons pe_int pa_nil)) (pg_name (i := 4) scLRight.nd rfl (Or.inl rfl)) (by exact hPT))
    (by exact hPE))), ?_⟩
  obtain ⟨l, rfl, hB, hT, hq⟩ := h
  refine fun p dx np ndx nex => ⟨p, dx, rfl, upd_same, fun H1 cur lp lf an kp nc nlp nlf nan hc1 sh1 => ⟨rfl, ?_⟩⟩
  have s0 : Same H (upd (upd H dx (.own p)) p (.ins (aS K) dx [])) := fun b o e => by
    rw [upd_ne (ne_of_none e np), upd_ne (ne_of_none e ndx)]
    exact e
  have s1 : Same H H1 := fun b o e => kp b o (s0 b o e) (by simpa using ne_of_none e np)
  have fr : ∀ {b : Addr}, H1 b = none → H b = none := fun {b} h => s1.free h
  have n0 : ∀ {b : Addr}, (upd (upd H dx (.own p)) p (.ins (aS K) dx [])) b = none → H b = none := fun {b} h => s0.free h
  refine fun d hd => ⟨by show 1 ≤ sizeLine; rw [sizeLine_eq]; decide, fun rl hrl => ⟨by show 0 ≤ sizeLine; rw [sizeLine_eq]; decide, fun ul hul => ⟨by show 3 ≤ sizeLine; rw [sizeLine_eq]; decide, fun t ht => ?_⟩⟩⟩
  have s2 : Same H1 (upd H1 d (.dK [])) := same_laid hd
  have d2 : (upd H1 d (.dK [])) d = some (.dK []) := upd_same
  have hdH := hd
  generalize upd H1 d (.dK []) = H2 at s2 d2 hrl hul ht
  have s3 : Same H2 (upd H2 rl (.lst [.ref d])) := same_laid hrl
  have r3 : (upd H2 rl (.lst [.ref d])) rl = some (.lst [.ref d]) := upd_same
  generalize upd H2 rl (.lst [.ref d]) = H3 at s3 r3 hul ht
  have s4 : Same H3 (upd H3 ul (.lst [])) := same_laid hul
  have u4 : (upd H3 ul (.lst [])) ul = some (.lst []) := upd_same
  generalize upd H3 ul (.lst []) = H4 at s4 u4 ht
  have s5 : Same H4 (upd H4 t (.tup [.ref p, .ref rl, .ref ul])) := same_laid ht
  refine ⟨t, _, rfl, SqT.of upd_same, rfl, _, _, rfl, _, _, rfl, _, _, rfl, rfl, ?_⟩
  have sA := (((s1.trans s2).trans s3).trans s4).trans s5
  have s15 := ((s2.trans s3).trans s4).trans s5
  obtain ⟨b0, b1, b2, hb⟩ := id hB
  have hb1 := s1 _ _ hb
  have base0 : RS K T H (upd H4 t (.tup [.ref p, .ref rl, .ref ul])) l p dx lp lf an [] cur [] rl ul [] d [] 0 := {
    bowl := hB.same sA
    tabs := (Kp.of sA : Kp [] H _).tabs (Mu.nil _) hT
    shf := sh1.same s15
    rows := (s4.trans s5) _ _ r3
    und := s5 _ _ u4
    lvP := .nil
    lvC := ⟨[], [], ⟨s15 _ _ hc1, fun e he => by cases he⟩, ⟨((s3.trans s4).trans s5) _ _ d2, fun e he => by cases he⟩, rfl, ⟨.nil, (fun e he => by cases he), (fun e he => by cases he)⟩, Ne.symm (ne_of_none hc1 hdH)⟩
    lvF := .nil
    len := Nat.le_refl _
    few := by decide
    n1 := ne_of_none ((s1.trans s2) _ _ hb) hrl
    n2 := ne_of_none (((s1.trans s2).trans s3) _ _ hb) hul
    n3 := ne_of_none r3 hul
    n4 := ne_of_none (s0 _ _ hb) nlp
    n5 := ne_of_none (s0 _ _ hb) nlf
    n6 := Ne.symm (ne_of_none (s2 _ _ sh1.lp_) hrl)
    n7 := Ne.symm (ne_of_none (s2 _ _ sh1.lf_) hrl)
    n8 := Ne.symm (ne_of_none ((s2.trans s3) _ _ sh1.lp_) hul)
    n9 := Ne.symm (ne_of_none ((s2.trans s3) _ _ sh1.lf_) hul)
    kt := (Kp.of sA).kt
    w1 := newN_none np
    w2 := newN_none ((s1.trans s2).free hrl)
    w3 := newN_none (((s1.trans s2).trans s3).free hul)
    w4 := newN_none (n0 nlp)
    w5 := newN_none (n0 nlf) }
  generalize upd H4 t (.tup [.ref p, .ref rl, .ref ul]) = H5 at base0
  refine ⟨_, rfl, by decide, by decide, ?_⟩
  refine for_range (lo := 0) (n := (40 : Int).toNat) (fun i σ H' => ∃ v4 v5 v6 v7 v8 v9 v10 v11 lp' lf' an' cur' rl' ul' rd' past' fut' rds' uds', σ = [some (.ref l), some (.ref p), some (.ref rl'), some (.ref ul'), v4, v5, v6, v7, v8, v9, v10, v11, none] ∧ RS K T H H' l p dx lp' lf' an' past' cur' fut' rl' ul' rds' rd' uds' i) ⟨none, none, none, none, none, none, none, none, lp, lf, an, cur, rl, ul, d, [], [], [], [], rfl, base0⟩ (fun i σ H' hi hP => ?_) (fun σ H' hP => ?_)
  · obtain ⟨v4, v5, v6, v7, v8, v9, v10, v11, lp', lf', an', cur', rl', ul', rd', past', fut', rds', uds', rfl, h⟩ := hP
    show tT _ [some (.ref l), some (.ref p), some (.ref rl'), some (.ref ul'), some (.int (0 + (i : Int))), v5, v6, v7, v8, v9, v10, v11, none] H'
    refine hTurn H H' l p dx lp' lf' an' cur' rl' ul' rd' past' fut' rds' uds' i _ v5 v6 v7 v8 v9 v10 v11 none Q _ _ _ h hi fun H6 lp2 lf2 an2 cur2 rl2 ul2 rd2 past2 fut2 rds2 uds2 w5 w6 w7 w8 w9 w10 w11 h2 => ?_
    exact ⟨_, w5, w6, w7, w8, w9, w10, w11, lp2, lf2, an2, cur2, rl2, ul2, rd2, past2, fut2, rds2, uds2, rfl, h2⟩
  · obtain ⟨v4, v5, v6, v7, v8, v9, v10, v11, lp', lf', an', cur', rl', ul', rd', past', fut', rds', uds', rfl, h⟩ := hP
    exact hEnd H H' l p dx lp' lf' an' cur' rl' ul' rd' past' fut' rds' uds' _ v4 v5 v6 v7 v8 v9 v10 v11 none Q _ h hq
end
end T83

set_option Elab.async false
set_option linter.all false
set_option maxRecDepth 100000
set_option maxHeartbeats 4000000
namespace T83
open PySem PySem.Spec PyProof.Rows L2 RZ LamX
section
variable {P : Program} {w : World} {K : PySem.W.Frag} {mg : Str → Option Value} {base : Heap}
/-! ### law -/
abbrev sLaw : Stmt := top 122
abbrev nLaw : List Str := ["script", "spot", "shelf", "one", "sign", "told"]
theorem scLaw : FnScope nLaw ["script"] (defScope sLaw) := ⟨rfl, rfl, rfl, by decide +kernel, rfl, by decide +kernel, by decide +kernel⟩
abbrev xLaw (P : Program) (w : World) (K : PySem.W.Frag) (mg : Str → Option Value) (base : Heap) (f c : Addr) (A : Around) (outer : List Env) (s : Shared) (H : Hp) (E : XK) : Cx := (cxOf CX0 P w K mg base nLaw "law" (defScope sLaw) f (.ref c) A outer s H E).nox
/-- the twelve signs -/
def sgs : List Nat := (Str.ofString "abcdefghijkl").cps.toList
def sgS (c : Nat) : Str := ⟨#[c]⟩
theorem law_end {c Pt : Addr} {T : List (Addr × Str)} (F : Fx K mg) (Ts : Fs K mg) (D : AtC K mg base "law" sLaw c Pt) (hmT : (Pt, ("law.<locals>.<lambda>" : Str)) ∈ T) (hu : ∀ p ∈ T, p.1 = Pt → p.2 = ("law.<locals>.<lambda>" : Str)) (HO : HeardOk P w K mg base)
    (MP : CalM P w K mg base (L2.CX P w) 8 "put" ["self", "name", "machine"] (spPut K))
    (f : Addr) (A : Around) (outer : List Env) (s : Shared) (H : Hp) (E : XK) (gA : A.guards = some []) (hr : Room 13 (A.deeper (envOfC "law" (defScope sLaw) s.heap.objs.size f (.ref c)))) :
    ∃ tT : TS, PSs (xLaw P w K mg base f c A outer s H E) ((defBody sLaw).drop 1) tT ∧
      ∀ (H1 : Hp) (u0 u1 u2 u3 u4 u5 : Option V) (Q : VK) (N : L2.St → Hp → Prop), Tabs T H1 → (∀ H', Q (.bl true) H') → tT { nx := N, rt := Q } [u0, u1, u2, u3, u4, u5] H1 := by
  obtain ⟨gh, fdh, hm, hk, hb, GH⟩ := HO.ex
  obtain ⟨fi, fdi, Mi, bi, Fi⟩ := ok_init (P := P) (w := w) (base := base) Ts
  have r8 : Room (8 + 3) (A.deeper (envOfC "law" (defScope sLaw) s.heap.objs.size f (.ref c))) := hr.mono (by decide)
  refine ⟨_, pss_cons (ps_asg (pe_tup (pa_cons (pe_make0 Mi Fi (hr.mono (by decide)) (by rfl) Ts.gS bi .nil pass0) (pa_cons (pe_tup (pa_cons pe_str (pa_cons (pe_tup (pa_cons (pe_tup (pa_cons (pe_tup (pa_cons pe_int (pa_cons (pe_tupF true (pa_cons (pe_tup (pa_cons pe_int (pa_cons pe_int pa_nil))) pa_nil)) pa_nil))) pa_nil)) pa_nil)) pa_nil))) pa_nil))) (pg_tup (n := 2) rfl (pgs_cons (pg_name (i := 2) scLaw.nd rfl (Or.inr rfl)) (pgs_cons (pg_name (i := 3) scLaw.nd rfl (Or.inr rfl)) pgs_nil))))
    (pss_cons (ps_for PassesOwn.never rfl (pi_str pe_str) (pg_name (i := 4) scLaw.nd rfl (Or.inl rfl)) (pss_one (ps_expr (pe_calm Ts.cl MP (hr.mono (by decide)) passNo (pv 2) (pa_cons (pv 4) (pa_cons (pv 3) pa_nil))))))
    (pss_cons (ps_set (i := 5) scLaw.nd rfl (Or.inl rfl) (pe_lst (pa_cons (pe_lamto (T := T) (j := 8) (t := fun E => tMeth (aS K) "put" (spPut K) [] E (tVar 2) (tCons (tC (.str "m")) (tCons (tVar 3) tNil))) GH rfl hm hk hb D.tb rfl hmT hu r8 (lamS_by (show lamSB (defScope sLaw) _ = true by decide +kernel)) (fun A outer s H E f c' hr2 => pe_calm Ts.cl MP hr2 passL (pv 2) (pa_cons pe_str (pa_cons (pv 3) pa_nil)))) pa_nil)))
    (pss_cons (ps_expr (pe_bm PySem.F.plainAttrs_list PySem.F.slot_list_append PySem.F.type_list_append mt_append (pv 5) (pa_cons (pe_lamto (T := T) (j := 8) (t := fun E => tMeth (aS K) "put" (spPut K) [] E (tVar 2) (tCons (tC (.str "a")) (tCons (tVar 3) tNil))) GH rfl hm hk hb D.tb rfl hmT hu r8 (lamS_by (show lamSB (defScope sLaw) _ = true by decide +kernel)) (fun A outer s H E f c' hr2 => pe_calm Ts.cl MP hr2 passL (pv 2) (pa_cons pe_str (pa_cons (pv 3) pa_nil)))) pa_nil)))
    (pss_one (ps_ret (pe_and (pe_cmpR (op_eqD hr.units) (pv 5) (pe_lst (pa_cons (pe_tup (pa_cons pe_str (pa_cons pe_str pa_nil))) (pa_cons (pe_tup (pa_cons pe_str (pa_cons pe_non pa_nil))) pa_nil))) (nomark _))
        (pe_one (pe_cmpR op_eq (pe_callB (cr_reprD gA hr.units) (by rfl) (F.b "repr" (by decide)) (by decide +kernel) (pa_cons (pe_tup (pa_cons (pe_gi F.c_machines) (pa_cons (pe_gi F.c_name) pa_nil))) pa_nil)) (pe_callB (cr_reprD gA hr.units) (by rfl) (F.b "repr" (by decide)) (by decide +kernel) (pa_cons (pe_tup (pa_cons pe_int (pa_cons pe_int pa_nil))) pa_nil)) (nomark _))))))))), ?_⟩
  intro H1 u0 u1 u2 u3 u4 u5 Q N hT hq
  refine fun p dx np ndx nex => ⟨p, dx, rfl, upd_same, fun H2 cur lp lf an kp nc nlp nlf nan hc1 sh1 => ⟨rfl, ?_⟩⟩
  have s0 : Same H1 (upd (upd H1 dx (.own p)) p (.ins (aS K) dx [])) := fun b o e => by
    rw [upd_ne (ne_of_none e np), upd_ne (ne_of_none e ndx)]
    exact e
  have s1 : Same H1 H2 := fun b o e => kp b o (s0 b o e) (by simpa using ne_of_none e np)
  refine ⟨two_le2, fun t1 ht1 => ⟨by show 1 ≤ sizeLine; rw [sizeLine_eq]; decide, fun t2 w2 hu2 ht2 => ⟨two_le2, fun t3 ht3 => ⟨by show 1 ≤ sizeLine; rw [sizeLine_eq]; decide, fun t4 ht4 => ⟨by show 1 ≤ sizeLine; rw [sizeLine_eq]; decide, fun t5 ht5 => ⟨two_le2, fun t6 ht6 => ⟨two_le2, fun t7 ht7 => ?_⟩⟩⟩⟩⟩⟩⟩
  obtain ⟨s6, htp⟩ := one_tp hu2 ht1 ht2 ht3 ht4 ht5 ht6
  generalize upd (upd (upd (upd (upd (upd H2 t1 (.tup [.int 0, .int 1])) t2 w2) t3 (.tup [.int 0, .ref t2])) t4 (.tup [.ref t3])) t5 (.tup [.ref t4])) t6 (.tup [.str "a", .ref t5]) = J at s6 htp ht7
  have s7 : Same J (upd J t7 (.tup [.ref p, .ref t6])) := same_laid ht7
  refine ⟨t7, _, rfl, SqT.of upd_same, rfl, _, _, rfl, _, _, rfl, rfl, ?_⟩
  have sA := s6.trans s7
  have htp7 := htp.keep s7.tups
  have shA := sh1.same sA
  have hcA := sA _ _ hc1
  have TA : Tabs T (upd J t7 (.tup [.ref p, .ref t6])) := (Kp.of (s1.trans sA) : Kp [] H1 _).tabs (Mu.nil _) hT
  generalize upd J t7 (.tup [.ref p, .ref t6]) = H3 at htp7 shA hcA TA
  have sgnd : (sgs.map sgS).Nodup := by decide +kernel
  have sgnm : ∀ c ∈ sgs, isNm (.str (sgS c)) = true ∧ (sgS c).length ≤ 1000 := by decide +kernel
  refine ⟨_, rfl, ?_⟩
  refine for_it (n := (Str.ofString "abcdefghijkl").cps.size) walk_str (fun i σ H' => ∃ u4', σ = [u0, u1, some (.ref p), some (.ref t6), u4', u5] ∧ Tabs T H' ∧ Tp H' (.ref t6) (dM mOne) ∧ ∃ past cur lf an es, Shf K H' p dx lp lf an past cur [] ∧ DE H' cur es ∧ es.map (·.1) = (sgs.take i).map sgS ∧ past.length = i) ⟨u4, rfl, TA, htp7, [], cur, lf, an, [], shA, ⟨hcA, fun e he => by cases he⟩, rfl, rfl⟩ (fun i σ H' _ h => True.intro) (fun i x σ H4 H5 hi hP hY => ?_) (fun σ H4 hP => ?_)
  · obtain ⟨u4', rfl, T4, tp4, past, cur, lf, an, es, sh4, de4, hkeys, hpl⟩ := hP
    obtain ⟨rfl, c, hc, rfl⟩ := hY
    have hcs : sgs[i]? = some c := by
      unfold sgs
      rw [Array.getElem?_toList]
      exact hc
    have hi12 : i < 12 := by
      have := (List.getElem?_eq_some_iff.mp hcs).1
      have e : sgs.length = 12 := by decide +kernel
      omega
    have hel : es.length = i := by
      have := congrArg List.length hkeys
      rw [List.length_map, List.length_map, List.length_take] at this
      have e : sgs.length = 12 := by decide +kernel
      omega
    obtain ⟨n1, n2⟩ := sgnm c (List.mem_of_getElem? hcs)
    have hnew : sgS c ∉ es.map (·.1) := by
      rw [hkeys]
      exact take_notin sgnd hcs
    refine ⟨_, rfl, p, dx, _, rfl, sh4.at_, rfl, _, rfl, _, rfl, p, dx, lp, lf, an, past, cur, [], es, .str (sgS c), .str (sgS c), .ref t6, some mOne, rfl, sh4, de4, by omega, by omega, .tp (.str _), (fun z e => by cases e; exact n2), .m tp4 (okM_sml mOne_ok), (fun e => by rw [n1] at e; cases e), (fun _ e => by rw [show okX (some mOne) = okM mOne from rfl, mOne_ok] at e; cases e), fun z m ez em _ _ => ⟨fun h12 => by omega, fun _ v hv => ?_⟩⟩
    cases ez
    cases em
    intro H6 lf2 cu an2 h41 h42 h43 kp6 hcu hsh
    have m4 : Mu _ [p, lp] := Mu.cons sh4.at_ True.intro (Mu.cons sh4.lp_ True.intro (Mu.nil _))
    refine ⟨_, rfl, kp6.tabs m4 T4, tp4.keep (kp6.tups m4), past ++ [cur], cu, lf2, an2, putA es (sgS c) (v, mOne), hsh, hcu, ?_, by rw [List.length_append, List.length_singleton, hpl]⟩
    rw [putA_new _ hnew, List.map_append, hkeys, List.take_add_one, hcs, List.map_append]
    rfl
  · obtain ⟨u4', rfl, T4, tp4, past, cur, lf, an, es, sh4, de4, hkeys, hpl⟩ := hP
    have e12 : sgs.length = 12 := by decide +kernel
    have htk : sgs.take (Str.ofString "abcdefghijkl").cps.size = sgs := List.take_of_length_le (by rw [e12]; decide +kernel)
    rw [htk] at hkeys
    have hel : es.length = 12 := by
      have := congrArg List.length hkeys
      rw [List.length_map, List.length_map] at this
      omega
    have hpl12 : past.length ≤ 1000 := by
      rw [hpl]
      decide +kernel
    have hmN : getA es "m" = none := getA_none.mpr (by rw [hkeys]; decide +kernel)
    have haS : getA es "a" ≠ none := fun z => getA_none.mp z (by rw [hkeys]; decide +kernel)
    have k12 : Atm (.int 12) (.int 12) := atm_int (by decide) (by decide)
    have e12s : ("many " : Str) ++ (PyData.int 12).shown = "many 12" := by decide +kernel
    have key : ∀ (H' : Hp), Kt [] H4 H' → Shf K H' p dx lp lf an past cur [] ∧ DE H' cur es ∧ Tp H' (.ref t6) (dM mOne) := fun H' k => ⟨sh4.kt k (by simp) (by simp) (by simp) (by simp), de4.kt k (Mu.nil _), tp4.keep (k.tups (Mu.nil _))⟩
    refine ⟨T4, fun H5 eN T5 => ?_⟩
    obtain ⟨sh5, de5, tp5⟩ := key H5 (Kt.of eN)
    refine ⟨_, rfl, p, dx, _, rfl, sh5.at_, rfl, _, rfl, p, dx, lp, lf, an, past, cur, [], es, .str "m", .str "m", .ref t6, some mOne, rfl, sh5, de5, hpl12, by omega, .tp (.str _), (fun z e => by cases e; decide +kernel), .m tp5 (okM_sml mOne_ok), (fun e => absurd e (by decide +kernel)), (fun _ e => by rw [show okX (some mOne) = okM mOne from rfl, mOne_ok] at e; cases e), fun z m ez em _ _ => ?_⟩
    cases ez
    cases em
    refine ⟨fun _ => bad_many k12 fun H6 r1 s6' hr1 => ?_, fun hn => absurd ⟨hmN, hel⟩ hn⟩
    rw [e12s]
    have s7' : Same H5 (upd H6 r1 (.tup [.str "raised", .str "many 12"])) := s6'.trans (same_laid hr1)
    have hr7 : (upd H6 r1 (.tup [.str "raised", .str "many 12"])) r1 = some (.tup [.str "raised", .str "many 12"]) := upd_same
    generalize upd H6 r1 (.tup [.str "raised", .str "many 12"]) = H7 at s7' hr7
    refine ⟨by show 1 ≤ sizeLine; rw [sizeLine_eq]; decide, fun L hL => ?_⟩
    have s8 : Same H7 (upd H7 L (.lst [.ref r1])) := same_laid hL
    have hL8 : (upd H7 L (.lst [.ref r1])) L = some (.lst [.ref r1]) := upd_same
    have hLlp : lp ≠ L := ne_of_none ((sh5.same s7').lp_) hL
    generalize upd H7 L (.lst [.ref r1]) = H8 at s8 hL8
    have s58 := s7'.trans s8
    have T8 : Tabs T H8 := (Kp.of s58 : Kp [] H5 H8).tabs (Mu.nil _) T5
    have k48 : Kt [] H4 H8 := (Kt.of eN).trans (Kp.of s58).kt
    refine ⟨_, rfl, .inl ⟨rfl, _, .inl (.inl hL8)⟩, T8, fun H9 eN9 T9 => ?_⟩
    have k49 : Kt [] H4 H9 := k48.trans (Kt.of eN9)
    obtain ⟨sh9, de9, tp9⟩ := key H9 k49
    have hL9 : H9 L = some (.lst [.ref r1]) := eN9 _ _ hL8 (fun ps z => by cases z)
    have hr9 : H9 r1 = some (.tup [.str "raised", .str "many 12"]) := eN9 _ _ (s8 _ _ hr7) (fun ps z => by cases z)
    refine ⟨_, rfl, p, dx, _, rfl, sh9.at_, rfl, _, rfl, p, dx, lp, lf, an, past, cur, [], es, .str "a", .str "a", .ref t6, some mOne, rfl, sh9, de9, hpl12, by omega, .tp (.str _), (fun z e => by cases e; decide +kernel), .m tp9 (okM_sml mOne_ok), (fun e => absurd e (by decide +kernel)), (fun _ e => by rw [show okX (some mOne) = okM mOne from rfl, mOne_ok] at e; cases e), fun z m ez em _ _ => ?_⟩
    cases ez
    cases em
    refine ⟨fun h => absurd h.1 haS, fun _ v hv => stepd_told fun H10 lf2 cu2 an2 r2 h41 h42 kp10 hcu hsh hr2 => ?_⟩
    have hLp : L ≠ p := ne_of hL9 sh9.at_ (by intro z; cases z)
    have m9 : Mu H9 [p, lp] := Mu.cons sh9.at_ True.intro (Mu.cons sh9.lp_ True.intro (Mu.nil _))
    have hL10 := kp10 _ _ hL9 (by simp; exact ⟨hLp, Ne.symm hLlp⟩)
    have hr10 := kp10.at m9 hr9 (fun z => z)
    have s11 : Same H10 (upd H10 r2 (.tup [.str "told", .non])) := same_laid hr2
    have hr11 : (upd H10 r2 (.tup [.str "told", .non])) r2 = some (.tup [.str "told", .non]) := upd_same
    generalize upd H10 r2 (.tup [.str "told", .non]) = H11 at s11 hr11
    have hL11 := s11 _ _ hL10
    have hr1_11 := s11 _ _ hr10
    refine ⟨L, _, _, rfl, rfl, hL11, by show 1 < sizeLine; rw [sizeLine_eq]; decide, ?_⟩
    have tk : TupK H11 (upd H11 L (.lst ([.ref r1] ++ [.ref r2]))) := tk_upd hL11 id
    have hL12 : (upd H11 L (.lst ([.ref r1] ++ [.ref r2]))) L = some (.lst [.ref r1, .ref r2]) := upd_same
    have a1 := tk _ _ hr1_11 True.intro
    have a2 := tk _ _ hr11 True.intro
    generalize upd H11 L (.lst ([V.ref r1] ++ [V.ref r2])) = H12 at hL12 a1 a2
    refine ⟨_, rfl, two_le2, fun q1 hq1 => ⟨two_le2, fun q2 hq2 => ⟨two_le2, fun M hM => ?_⟩⟩⟩
    have b1 : Same H12 (upd H12 q1 (.tup [.str "raised", .str "many 12"])) := same_laid hq1
    have e1 : (upd H12 q1 (.tup [.str "raised", .str "many 12"])) q1 = some (.tup [.str "raised", .str "many 12"]) := upd_same
    generalize upd H12 q1 (.tup [.str "raised", .str "many 12"]) = H13 at b1 e1 hq2 hM
    have b2 : Same H13 (upd H13 q2 (.tup [.str "told", .non])) := same_laid hq2
    have e2 : (upd H13 q2 (.tup [.str "told", .non])) q2 = some (.tup [.str "told", .non]) := upd_same
    generalize upd H13 q2 (.tup [.str "told", .non]) = H14 at b2 e2 hM
    have b3 : Same H14 (upd H14 M (.lst [.ref q1, .ref q2])) := same_laid hM
    have e3 : (upd H14 M (.lst [.ref q1, .ref q2])) M = some (.lst [.ref q1, .ref q2]) := upd_same
    generalize upd H14 M (.lst [.ref q1, .ref q2]) = H15 at b3 e3
    have bA := (b1.trans b2).trans b3
    have bB := b2.trans b3
    have d1 : Dp K H15 (.ref L) (.list [.tuple [.str "raised", .str "many 12"], .tuple [.str "told", .none]]) := .lst (SqL.of (bA _ _ hL12)) (.cons (dp_two (bA _ _ a1)) (.cons (dp_non (bA _ _ a2)) .nil))
    have d2 : Dp K H15 (.ref M) (.list [.tuple [.str "raised", .str "many 12"], .tuple [.str "told", .none]]) := .lst (SqL.of e3) (.cons (dp_two (bB _ _ e1)) (.cons (dp_non (b3 _ _ e2)) .nil))
    have hsd : SeqAt.shaped (.list [.tuple [.str "raised", .str "many 12"], .tuple [.str "told", .none]]) = true := by decide +kernel
    have heq : PyData.eqv (.list [.tuple [.str "raised", .str "many 12"], .tuple [.str "told", .none]]) (.list [.tuple [.str "raised", .str "many 12"], .tuple [.str "told", .none]]) = true := by decide +kernel
    refine ⟨_, _, d1, d2, hsd, hsd, _, rfl, ?_⟩
    rw [heq]
    refine iteT ⟨two_le2, fun q3 hq3 => ?_⟩
    have g1 : (upd H15 q3 (.tup [.int 12, .int 8])) q3 = some (.tup [.int 12, .int 8]) := upd_same
    have hs1 : (PyData.tuple [.int 12, .int 8]).showable = true := by decide +kernel
    have hs2 : (PyData.tuple [.int 12, .int 8]).shown.length ≤ sizeLine := by decide +kernel
    have hs3 : (PyData.tuple [.int 12, .int 8]).hasDict = false := by decide +kernel
    have hs4 : (PyData.tuple [.int 12, .int 8]).depth ≤ 62 := by decide +kernel
    refine ⟨q3, .tuple [.int 12, .int 8], rfl, .tup (SqT.of g1) (.cons (.int _) (.cons (.int _) .nil)), hs1, hs3, hs4, hs2, two_le2, fun q4 hq4 => ?_⟩
    refine ⟨q4, .tuple [.int 12, .int 8], rfl, .tup (SqT.of upd_same) (.cons (.int _) (.cons (.int _) .nil)), hs1, hs3, hs4, hs2, rfl, ?_⟩
    rw [decide_eq_true rfl]
    exact hq _
end
end T83

set_option Elab.async false
set_option linter.all false
set_option maxRecDepth 100000
set_option maxHeartbeats 4000000
namespace T83
open PySem PySem.Spec PyProof.Rows L2 RZ LamX
section
variable {P : Program} {w : World} {K : PySem.W.Frag} {mg : Str → Option Value} {base : Heap}
def spLaw (K : PySem.W.Frag) (T : List (Addr × Str)) : Sp := fun vs H Q _ => ∃ (a : Addr) (ns : List Int), vs = [.ref a] ∧ SqL K H a (ns.map V.int) ∧ ns.length ≤ sizeLine ∧ Tabs T H ∧ ∀ H', Q (.bl true) H'
theorem sql_kt {l a : Addr} {xs : List V} {H H' : Hp} (h : SqL K H a xs) (k : Kt [l] H H') (n : H l = none) : SqL K H' a xs := by
  rcases h with (h | ⟨o, h⟩) | h
  · exact .inl (.inl (k _ _ h (by simp; exact ne_of_none h n) (fun ps z => by cases z)))
  · exact .inl (.inr ⟨o, k _ _ h (by simp; exact ne_of_none h n) (fun ps z => by cases z)⟩)
  · exact .inr h
theorem ok_law {c Pt : Addr} {T : List (Addr × Str)} (F : Fx K mg) (Ts : Fs K mg) (D : AtC K mg base "law" sLaw c Pt) (hmT : (Pt, ("law.<locals>.<lambda>" : Str)) ∈ T) (hu : ∀ p ∈ T, p.1 = Pt → p.2 = ("law.<locals>.<lambda>" : Str)) (HO : HeardOk P w K mg base)
    (GB : Cal P w K mg base CX0 1 "_law_bowl" ["script", "spot"] (spBowl K)) (GR : CalG P w K mg base CX0 13 "_law_right" ["bowl"] (spLRight T)) (MP : CalM P w K mg base (L2.CX P w) 8 "put" ["self", "name", "machine"] (spPut K)) :
    CalG P w K mg base CX0 14 "law" ["script"] (spLaw K T) := by
  refine calG_ofC D scLaw (fun vs H Q E h => ?_) (fun _ _ _ _ _ _ us hl => match us, hl with | [_], _ => rfl) fun f A outer s H vs Q E gA hr h => ?_
  · obtain ⟨a, ns, rfl, _⟩ := h
    rfl
  obtain ⟨tE, hPE, hEnd⟩ := law_end (P := P) (w := w) (base := base) (c := c) F Ts D hmT hu HO MP f A outer s H E gA hr
  refine ⟨_, PSs.nox (pss_cons (ps_for PassesOwn.never rfl (pi_range1 rfl (F.b "range" (by decide)) (pa_cons (pe_callB (call_max2 rfl) (by rfl) (F.b "max" (by decide)) (by decide +kernel) (pa_cons pe_int (pa_cons (pe_callB (call_min2 rfl) (by rfl) (F.b "min" (by decide)) (by decide +kernel) (pa_cons pe_int (pa_cons (pe_callB call_len (by rfl) (F.b "len" (by decide)) boot_len (pa_cons (pv 0) pa_nil)) pa_nil))) pa_nil))) pa_nil)) (pg_name (i := 1) scLaw.nd rfl (Or.inl rfl))
      (pss_one (ps_if (pt_not (pt_val (pe_calG GR gA hr (by rfl) (pa_cons (pe_cal GB (hr.mono (by decide)) (by rfl) pass0 (pa_cons (pv 0) (pa_cons (pv 1) pa_nil))) pa_nil)))) (pss_one (ps_ret pe_bl)) pss_nil)))
    (by exact hPE)), ?_⟩
  obtain ⟨a, ns, rfl, hS, hl, hT, hq⟩ := h
  refine ⟨_, rfl, _, (ns.map V.int).length, rfl, .inl ⟨_, hS, rfl⟩, _, _, rfl, _, _, rfl, ?_⟩
  generalize hcn : (if (if (((ns.map V.int).length : Nat) : Int) < 2 then (((ns.map V.int).length : Nat) : Int) else 2) > 1 then (if (((ns.map V.int).length : Nat) : Int) < 2 then (((ns.map V.int).length : Nat) : Int) else 2) else 1) = n
  have hn : 0 ≤ n ∧ n ≤ 2 := by
    rw [← hcn]
    split <;> split <;> omega
  refine ⟨_, rfl, by omega, by omega, ?_⟩
  refine for_range (lo := 0) (n := n.toNat) (fun i σ H' => (∃ u1, σ = [some (.ref a), u1, none, none, none, none]) ∧ SqL K H' a (ns.map V.int) ∧ Tabs T H') ⟨⟨none, rfl⟩, hS, hT⟩ (fun i σ H' hi hP => ?_) (fun σ H' hP => ?_)
  · obtain ⟨⟨u1, rfl⟩, hS', hT'⟩ := hP
    refine ⟨_, rfl, _, rfl, a, ns, i, ?_, hS', fun H2 l s2 hl2 hB => ?_⟩
    · show [V.ref a, V.int (0 + (i : Int))] = _
      rw [Int.zero_add]
    · refine ⟨l, rfl, hB, (Kp.of s2 : Kp [] H' H2).tabs (Mu.nil _) hT', fun H3 k3 T3 => ⟨_, rfl, iteF ⟨⟨_, rfl⟩, ?_, T3⟩⟩⟩
      exact sql_kt hS' ((Kp.of s2 : Kp [l] H' H2).kt.trans k3) hl2
  · obtain ⟨⟨u1, rfl⟩, hS', hT'⟩ := hP
    exact hEnd H' _ _ _ _ _ _ Q _ hT' hq
end
end T83

set_option Elab.async false
set_option linter.all false
set_option maxRecDepth 100000
set_option maxHeartbeats 4000000
namespace T83
open PySem PySem.Spec PyProof.Rows L2 LamX
section
variable {K : PySem.W.Frag} {h : Heap} {mg : Str → Option Value}
theorem z_f (c : SaysZ h K) {f : He.Fa} (hf : f ∈ fa) : f.ok K = true := by
  obtain ⟨i, hi, e⟩ := List.mem_iff_getElem.mp hf
  exact c.a.fact i (f := f) (by rw [List.getElem?_eq_getElem hi, e])
theorem z_xb (c : SaysZ h K) (i : Nat) {b : Bool} (e : (xB K)[i]? = some b) : b = true :=
  List.all_eq_true.mp (He.ba c.more).1 b (List.mem_of_getElem? e)
theorem z_ex (c : SaysZ h K) {x : ExI} (hx : x ∈ exL) (i : Nat) {b : Bool} (e : (exB K x)[i]? = some b) : b = true := by
  have h1 := List.all_eq_true.mp (He.ba (He.ba c.more).2).1 x hx
  exact List.all_eq_true.mp h1 b (List.mem_of_getElem? e)
theorem z_fn (c : SaysZ h K) {x : ExI} (hx : x ∈ exL) : fnZ K (fA K x.x) = valZ x := by
  obtain ⟨i, hi, e⟩ := List.mem_iff_getElem.mp hx
  have h1 := congrArg (fun l : List FnZ => l[i]?) c.fz
  have e2 : exL[i]? = some x := by rw [List.getElem?_eq_getElem hi, e]
  rw [List.getElem?_map, List.getElem?_map, e2] at h1
  exact Option.some.inj h1
theorem m0 {f : He.Fa} (hf : f ∈ fa0) : f ∈ fa := List.mem_append_left _ hf
theorem m1 {x : Str} (hf : x ∈ ndL) : He.Fa.glo x ∈ fa := List.mem_append_right _ (List.mem_append_left _ (List.mem_map.mpr ⟨x, hf, rfl⟩))
theorem m2 {x : Str} (hf : x ∈ bltL) : He.Fa.free x ∈ fa := List.mem_append_right _ (List.mem_append_right _ (List.mem_append_left _ (List.mem_map.mpr ⟨x, hf, rfl⟩)))
theorem m3 {x : Str} (hf : x ∈ cghL) : He.Fa.glo x ∈ fa := List.mem_append_right _ (List.mem_append_right _ (List.mem_append_right _ (List.mem_append_left _ (List.mem_map.mpr ⟨x, hf, rfl⟩))))
theorem m4 {x : Str} (hf : x ∈ mnL) : He.Fa.meth "Shelf" x ∈ fa := List.mem_append_right _ (List.mem_append_right _ (List.mem_append_right _ (List.mem_append_right _ (List.mem_append_left _ (List.mem_map.mpr ⟨x, hf, rfl⟩)))))
theorem m5 {x y : Str} (hx : x ∈ rsdL) (hy : y ∈ cghL) : He.Fa.exm x y (decide (x = y)) ∈ fa := List.mem_append_right _ (List.mem_append_right _ (List.mem_append_right _ (List.mem_append_right _ (List.mem_append_right _ (List.mem_flatMap.mpr ⟨x, hx, List.mem_map.mpr ⟨y, hy, rfl⟩⟩)))))
theorem z_0 (c : SaysZ h K) (i : Nat) {f : He.Fa} (e : fa0[i]? = some f := by rfl) : f.ok K = true := z_f c (m0 (List.mem_of_getElem? e))
theorem z_fx (X : K.In h) (G : h.Ns mainGlobals mg) (c : SaysZ h K) : Fx K mg where
  b := fun x hx => He.free_ok X G (z_f c (m2 hx))
  gcd := PySem.W.mg_of X G (He.eqO_ok (z_xb c 2 rfl))
  c_places := He.int_ok X G (z_0 c 0)
  c_choices := He.int_ok X G (z_0 c 1)
  c_price := He.int_ok X G (z_0 c 2)
  c_part := He.int_ok X G (z_0 c 3)
  c_pair := He.int_ok X G (z_0 c 4)
  c_machines := He.int_ok X G (z_0 c 5)
  c_name := He.int_ok X G (z_0 c 6)
  c_checks := He.str_ok X G (z_0 c 7)
  c_shelf := He.str_ok X G (z_0 c 8)
theorem z_at (X : K.In h) (G : h.Ns mainGlobals mg) (c : SaysZ h K) (x : Str) (n i : Nat) (hx : x ∈ ndL := by decide) (e2 : fn[i]? = some (mkD x n) := by rfl) : At K mg x (top n) := by
  obtain ⟨fd, F⟩ := c.a.def_ i (d := mkD x n) e2
  exact ⟨He.ga K x, fd, He.glo_ok X G (z_f c (m1 hx)), F⟩
theorem z_mat (c : SaysZ h K) (m q : Str) (j k : Nat) (e1 : m ∈ mnL := by decide) (e2 : fn[j]? = some (mkM m q k) := by rfl) : MAt K m q k := by
  obtain ⟨fd, F⟩ := c.a.def_ j (d := mkM m q k) e2
  exact ⟨He.ma K (aS K) m, fd, He.meth_ok (z_f c (m4 e1)), F⟩
theorem z_gt (c : SaysZ h K) : PropOf K (aS K) "names" (aPr K) (aGt K) where
  at_ := He.eqO_ok (z_xb c 3 rfl)
  get := He.eqO_ok (z_xb c 4 rfl)
  tak := of_decide_eq_true (z_xb c 5 rfl)
  rec_ := by
    have e := z_xb c 6 rfl
    unfold aGt
    split at e
    · rename_i g r q
      exact ⟨r, by rw [q]⟩
    · cases e
theorem z_fs (X : K.In h) (G : h.Ns mainGlobals mg) (c : SaysZ h K) : Fs K mg where
  cl := He.cls_ok (z_0 c 10 (f := .cls "Shelf"))
  n1 := He.noat_ok (z_0 c 12 (f := .noat "Shelf" "own_machines"))
  n2 := He.noat_ok (z_0 c 13 (f := .noat "Shelf" "own_past"))
  n3 := He.noat_ok (z_0 c 14 (f := .noat "Shelf" "own_future"))
  n4 := He.noat_ok (z_0 c 15 (f := .noat "Shelf" "own_answers"))
  gS := He.glo_ok X G (z_0 c 9 (f := .glo "Shelf"))
  mkr := by
    obtain ⟨fd, F⟩ := c.a.def_ 38 (d := mkM "__init__" "Shelf.__init__" 0) rfl
    exact ⟨_, fd, He.mkr_ok (z_0 c 11 (f := .mkr "Shelf")), F⟩
  pr := by
    obtain ⟨fd, F⟩ := c.a.def_ 54 (d := mkP) rfl
    exact ⟨_, _, fd, z_gt c, F⟩
  step := z_mat c _ _ 39 _
  put := z_mat c _ _ 40 _
  drop := z_mat c _ _ 41 _
  price := z_mat c _ _ 42 _
  part := z_mat c _ _ 43 _
  less := z_mat c _ _ 44 _
  undo := z_mat c _ _ 45 _
  redo := z_mat c _ _ 46 _
  known := z_mat c _ _ 47 _
  machine := z_mat c _ _ 48 _
  twin := z_mat c _ _ 49 _
  has := z_mat c _ _ 50 _
  len := z_mat c _ _ 51 _
  eq := z_mat c _ _ 52 _
  str := z_mat c _ _ 53 _
  ne := He.eqO_ok (z_xb c 7 rfl)
  ob := of_decide_eq_true (z_xb c 8 rfl)
  intS := of_decide_eq_true (z_xb c 9 rfl)
  intK := of_decide_eq_true (z_xb c 10 rfl)
  ha := He.eqO_ok (z_xb c 11 rfl)
  hn := He.eqO_ok (z_xb c 12 rfl)
  htk := of_decide_eq_true (z_xb c 13 rfl)
/-! ### exceptions -/
theorem z_xp {x : Str} (c : SaysZ h K) (i : Nat) (e : fa0[i]? = some (.exc x)) : Xp K x := by
  obtain ⟨x1, x2, x3, x4⟩ := He.exc_ok (z_0 c i e)
  exact ⟨x1, x2, x3, x4⟩
theorem closeB_ok {e : ExI} (hb : closeB K e = true) (hf : fnZ K (fA K e.x) = valZ e) : ∃ (oc : Value) (od : Option Addr) (osl : Array (Option Value)) (kV doc pm ct : Value) (an : Option Addr) (cc cda : Addr),
    K.lookup (fA K e.x) = some ⟨oc, od, .func (PySem.W.fnX "__init__" e.q (defArgs (sPI e)) (defBody (sPI e)) (defScope (sPI e)) [("__class__", cc)] .none kV doc pm an (.ref cda) ct), osl⟩ ∧ PySem.W.codeIn K (.ref cda) e.q = true ∧
    (∃ cl cld csl, K.lookup cc = some ⟨cl, cld, .cell (some (.ref (cA K e.x))), csl⟩) ∧ (∃ kl kd vs ksl file tf, K.lookup cda = some ⟨kl, kd, .fields vs, ksl⟩ ∧ vs[2]? = some (.str file tf) ∧ ((PGM.main.file : Str) == file) = true) := by
  unfold closeB at hb
  unfold fnZ at hf
  split at hb
  · rename_i oc od fd osl e1
    rw [e1] at hf
    obtain ⟨n1, n2, n3, n4, n5, n6, n7, n8, n9, n10, n11, n12, n13, n14, n15⟩ := fd
    have hf2 : (some (n1, n2, n3, n4, n5, n6, n8, n15) : FnZ) = some (Str.ofString "__init__", e.q, defArgs (sPI e), FuncBody.stmts (defBody (sPI e)), defScope (sPI e), mainGlobals, Value.none, builtinsNs) := hf
    simp only [Option.some.injEq, Prod.mk.injEq] at hf2
    obtain ⟨h1, h2, h3, h4, h5, h6, h7, h8⟩ := hf2
    subst h1 h2 h3 h4 h5 h6 h7 h8
    obtain ⟨b1, b2⟩ := He.ba hb
    obtain ⟨b3, b4⟩ := He.ba b2
    dsimp only at b1 b3 b4
    split at b1
    · rename_i n cc
      obtain ⟨b5, b6⟩ := He.ba b1
      rw [beq_iff_eq.mp b5] at e1
      split at b6
      · rename_i cl cld D csl e2
        rw [beq_iff_eq.mp b6] at e2
        split at b3
        · rename_i cda
          split at b3
          · rename_i kl kd vs ksl e3
            split at b3
            · rename_i v0 v1 file tf r ev
              refine ⟨oc, od, osl, n9, n10, n11, n14, n12, cc, cda, e1, b4, ⟨cl, cld, csl, e2⟩, ⟨kl, kd, vs, ksl, file, tf, e3, ?_, b3⟩⟩
              rw [← Array.getElem?_toList, ev]
              rfl
            · cases b3
          · cases b3
        · cases b3
      · cases b6
    · cases b1
  · cases hb
theorem z_xi (X : K.In h) (G : h.Ns mainGlobals mg) (c : SaysZ h K) {e : ExI} (he : e ∈ exL) (msg : Str) (p : XB.Ps) (h1 : defArgs (sPI e) = XB.supArgs e.pn p) (h2 : defBody (sPI e) = XB.supBody e.pn e.pn msg p) (h3 : defScope (sPI e) = XB.supScope e.pn) (h4 : (p.a2.endLine == p.a4.line) = true)
    (pne : (e.pn == ("super" : Str)) = false ∧ (e.pn == ("__class__" : Str)) = false ∧ (e.pn == ("self" : Str)) = false ∧ (e.pn == ("__debug__" : Str)) = false)
    (hb : ∀ (kV doc pm ct : Value) (an : Option Addr) (cc cda : Addr), Binds K (PySem.W.fnX "__init__" e.q (XB.supArgs e.pn p) (XB.supBody e.pn e.pn msg p) (XB.supScope e.pn) [("__class__", cc)] .none kV doc pm an (.ref cda) ct) ["self", e.pn] []) :
    Xi e.tl e.nw e.iB e.ii e.pn e.pn PGM K mg e.x := by
  obtain ⟨oc, od, osl, kV, doc, pm, ct, an, cc, cda, l1, l2, l3, l4⟩ := closeB_ok (z_ex c he 13 rfl) (z_fn c he)
  rw [h1, h2, h3] at l1
  exact {
    fd := ⟨_, ⟨⟨oc, od, osl, e.q, msg, p, kV, doc, pm, ct, an, cc, cda, rfl, l1, l2, l3, l4, h4⟩, pne, z_ex c he 11 rfl, of_decide_eq_true (z_ex c he 10 rfl), by decide +kernel, He.free_ok X G (z_f c (m2 (x := "super") (by decide))),
      He.eqO_ok (z_xb c 1 rfl), of_decide_eq_true (z_ex c he 12 rfl), of_decide_eq_true (z_ex c he 9 rfl), ⟨excB_ok (z_ex c he 0 rfl), He.eqO_ok (z_ex c he 1 rfl), of_decide_eq_true (z_ex c he 2 rfl), of_decide_eq_true (z_ex c he 3 rfl), z_ex c he 4 rfl⟩, He.eqO_ok (z_ex c he 8 rfl)⟩, hb _ _ _ _ _ _ _⟩
    iI := He.eqO_ok (z_ex c he 5 rfl)
    tI := of_decide_eq_true (z_ex c he 6 rfl)
    xf := xfB_ok (z_ex c he 7 rfl) }
theorem z_fe (X : K.In h) (G : h.Ns mainGlobals mg) (c : SaysZ h K) : Fe PGM K mg where
  g := fun x hx => He.glo_ok X G (z_f c (m3 hx))
  m := fun x hx y hy => He.exm_ok (z_f c (m5 hx hy))
  mach := z_xp c 16 rfl
  name := z_xp c 17 rfl
  num := z_xi X G c (e := exN) (.head _) _ ⟨_, _, _, _, _, _, _, _, _, _, _, _⟩ rfl rfl rfl (by decide +kernel) ⟨by decide, by decide, by decide, by decide⟩ fun _ _ _ _ _ _ _ => .all fun us hl => match us, hl with | [_, _], _ => rfl
  many := z_xi X G c (e := exM) (.tail _ (.head _)) _ ⟨_, _, _, _, _, _, _, _, _, _, _, _⟩ rfl rfl rfl (by decide +kernel) ⟨by decide, by decide, by decide, by decide⟩ fun _ _ _ _ _ _ _ => .all fun us hl => match us, hl with | [_, _], _ => rfl
  unk := z_xi X G c (e := exU) (.tail _ (.tail _ (.head _))) _ ⟨_, _, _, _, _, _, _, _, _, _, _, _⟩ rfl rfl rfl (by decide +kernel) ⟨by decide, by decide, by decide, by decide⟩ fun _ _ _ _ _ _ _ => .all fun us hl => match us, hl with | [_, _], _ => rfl
  noth := z_xi X G c (e := exR) (.tail _ (.tail _ (.tail _ (.head _)))) _ ⟨_, _, _, _, _, _, _, _, _, _, _, _⟩ rfl rfl rfl (by decide +kernel) ⟨by decide, by decide, by decide, by decide⟩ fun _ _ _ _ _ _ _ => .all fun us hl => match us, hl with | [_, _], _ => rfl
  rxf := xfB_ok (z_xb c 14 rfl)
  rno := He.eqO_ok (z_xb c 15 rfl)
/-! ### defs whose code objects are known -/
theorem z_atc {base : Heap} (X : K.In h) (G : h.Ns mainGlobals mg) (c : SaysZ h K) (x : Str) (n i : Nat) (tb : TabB base mg (He.cT K (x, none)).1 (He.cT K (x, none)).2) (hx : x ∈ ndL := by decide) (e2 : fn[i]? = some (mkD x n) := by rfl) : AtC K mg base x (top n) (He.cT K (x, none)).1 (tA K x) := by
  obtain ⟨fd, F⟩ := c.a.def_ i (d := mkD x n) e2
  obtain ⟨oc, od, dV, kV, doc, pm, an, cdv, ct, osl, e1, l1, l2, l3⟩ := F.ex
  obtain ⟨cd, rfl⟩ := He.codeIn_ref l2
  have ec : fd.code = .ref cd := by rw [e1] <;> rfl
  have eq : He.codeOf K (x, none) = cd := He.codeOf_eq (p := (x, none)) l1 ec
  refine ⟨⟨He.ga K x, fd, He.glo_ok X G (z_f c (m1 hx)), F, ?_⟩, tb⟩
  rw [ec]
  exact congrArg Value.ref eq.symm
end
end T83

set_option Elab.async false
set_option linter.all false
set_option maxRecDepth 100000
set_option maxHeartbeats 0
namespace T83
open PySem PySem.Spec PyProof.Rows L2 LamX
def lamQ : List (Str × Str) := [("_law_changed", "_law_changed.<locals>.<lambda>"), ("_law_put_or_dropped", "_law_put_or_dropped.<locals>.<lambda>"), ("_law_right", "_law_right.<locals>.<lambda>"), ("law", "law.<locals>.<lambda>")]
def TT (K : PySem.W.Frag) : List (Addr × Str) := lamQ.map fun q => (tA K q.1, q.2)
theorem tt_hu {h : Heap} {K : PySem.W.Frag} (c : SaysZ h K) {x q : Str} (hm : (x, q) ∈ lamQ) : ∀ p ∈ TT K, p.1 = tA K x → p.2 = q := by
  have nd : (tf.map fun p => (He.cT K p).2).Nodup := of_decide_eq_true (He.ba (He.ba c.more).2).2
  have nd2 : (lamQ.map fun q => tA K q.1).Nodup := nd
  intro p hp e
  obtain ⟨⟨y, r⟩, hy, rfl⟩ := List.mem_map.mp hp
  obtain ⟨i, hi, e1⟩ := List.mem_iff_getElem.mp hm
  obtain ⟨j, hj, e2⟩ := List.mem_iff_getElem.mp hy
  have e3 : tA K y = tA K x := e
  have pw := List.pairwise_iff_getElem.mp (show List.Pairwise (· ≠ ·) (lamQ.map fun q => tA K q.1) from nd2)
  have gi : ∀ {i : Nat} (hi : i < lamQ.length) {u : Str × Str}, lamQ[i] = u → (lamQ.map fun q => tA K q.1)[i]'(by simpa using hi) = tA K u.1 := fun {i} hi {u} e => by rw [List.getElem_map, e]
  have key : j = i := by
    rcases Nat.lt_trichotomy j i with l | l | l
    · exact absurd ((gi hj e2).trans (e3.trans (gi hi e1).symm)) (pw j i (by simpa using hj) (by simpa using hi) l)
    · exact l
    · exact absurd ((gi hi e1).trans (e3.symm.trans (gi hj e2).symm)) (pw i j (by simpa using hi) (by simpa using hj) l)
  subst key
  rw [e1] at e2
  exact (congrArg Prod.snd e2).symm
theorem z_law {w : World} {K : PySem.W.Frag} {h : Heap} {mg : Str → Option Value} (X : K.In h) (G : h.Ns mainGlobals mg) (c : SaysZ h K) (base : Heap) (tb : ∀ p ∈ tf.map (He.cT K), TabB base mg p.1 p.2) : CalG PGM w K mg base CX0 14 "law" ["script"] (spLaw K (TT K)) := by
  have F := z_fx X G c
  have E0 := z_fe X G c
  have T := z_fs X G c
  have tb1 : ∀ x : Str, (x, none) ∈ tf → TabB base mg (He.cT K (x, none)).1 (He.cT K (x, none)).2 := fun x hx => tb _ (List.mem_map.mpr ⟨_, hx, rfl⟩)
  -- checks, parts
  have a1 := ok_is_whole (P := PGM) (w := w) (base := base) F (z_at X G c "is_whole" 19 0)
  have a2 := ok_is_within F (z_at X G c "is_within" 20 1) a1
  have a3 := ok_is_pair (P := PGM) (w := w) (base := base) F (z_at X G c "is_pair" 21 2)
  have a4 := ok_let (P := PGM) (w := w) (base := base) F (z_at X G c "is_letters" 22 3)
  have a5 := ok_asc (P := PGM) (w := w) (base := base) F (z_at X G c "is_ascending" 23 4)
  have a6 := ok_parts F (z_at X G c "are_parts" 38 5) a3 a2 a5
  have a7 := ok_choice F (z_at X G c "is_choice" 39 6) a3 a2 a6
  have a8 := ok_fault F (z_at X G c "fault_in" 40 7) a3 a4 a7 a5
  have a9 := ok_mach_in F (z_at X G c "is_machine_in" 41 8) a8
  have b1 := ok_size (P := PGM) (w := w) (base := base) F (z_at X G c "size_of" 45 9)
  have b2 := ok_rmach F E0 (z_at X G c "require_machine" 51 10) a9
  have b3 := ok_rplace F E0 (z_at X G c "require_place" 52 11) a2 b1
  have b4 := ok_rindex F E0 (z_at X G c "require_index" 53 12) a2
  have b5 := ok_name (P := PGM) (w := w) (base := base) F (z_at X G c "is_name" 95 13)
  have b6 := ok_ramount F E0 (z_at X G c "require_amount" 96 14) a2
  have b7 := ok_withC F E0 (z_at X G c "with_choices" 97 15) a9
  have b8 := ok_withP (P := PGM) (w := w) (base := base) F (z_at X G c "with_part" 98 16)
  have b9 := ok_rsteps F E0 (z_at X G c "require_steps" 101 17) a1
  -- Shelf
  have s1 := ok_step (P := PGM) (w := w) (mg := mg) (base := base) T
  have s2 := ok_has (P := PGM) (w := w) (base := base) F T
  have s3 := ok_len (P := PGM) (w := w) (base := base) F T
  have s4 := ok_known E0 T s2
  have s5 := ok_machine T s4
  have s6 := ok_names (P := PGM) (w := w) (base := base) F T
  have s7 := ok_eq (P := PGM) (w := w) (base := base) F T
  have s8 := ok_str (P := PGM) (w := w) (base := base) F T
  have m1 := (ok_undo F E0 T b9).mono (k := 8) (by decide)
  have m2 := (ok_redo F E0 T b9).mono (k := 8) (by decide)
  have m3 := ok_twin (P := PGM) (w := w) (base := base) F T
  have m4 := ok_put F E0 T b5 b2 s1
  have m5 := (ok_drop F T s4 s1).mono (k := 8) (by decide)
  have m6 := ok_price F E0 T s5 b3 b4 b6 s1 b7
  have m7 := ok_part F E0 T s5 b3 b4 b6 b8 s1 b7
  have m8 := ok_less F E0 T s5 b3 b4 s1 b7
  -- the law's own
  have d1 := ok_bowl (P := PGM) (w := w) (base := base) F (z_at X G c "_law_bowl" 103 18)
  have d2 := ok_scoop (P := PGM) (w := w) (base := base) F (z_at X G c "_law_scoop" 104 19)
  have d3 := ok_one_of F (z_at X G c "_law_one_of" 105 20) d2
  have d4 := ok_common (P := PGM) (w := w) (base := base) F (z_at X G c "_law_common" 106 21)
  have d5 := ok_lparts F (z_at X G c "_law_parts" 107 22) d2 d3 d4
  have d6 := ok_lmach F (z_at X G c "_law_machine" 108 23) d2 d3 d5
  have d7 := ok_lwhole (P := PGM) (w := w) (base := base) F (z_at X G c "_law_is_whole" 109 24)
  have d8 := ok_lput (P := PGM) (w := w) (base := base) F (z_at X G c "_law_put" 110 25)
  have d9 := ok_lrowed F (z_at X G c "_law_rowed" 115 30) d8
  have e1 := ok_lpriced F (z_at X G c "_law_priced" 112 27) d9
  have e2 := ok_lparted F (z_at X G c "_law_parted" 113 28) d9 d4
  have e3 := ok_llessened F (z_at X G c "_law_lessened" 114 29) d9
  have e4 := ok_lwrong F (z_at X G c "_law_wrong" 117 32) d7
  have HO : HeardOk PGM w K mg base := by
    obtain ⟨g, fd, hg, D⟩ := (z_at X G c "_law_heard" 116 31).ex
    obtain ⟨m, fdm, hm, DM⟩ := (z_at X G c "_law_met" 111 26).ex
    exact ⟨g, fd, hg, D.kp, D.bindsN (ps := ["call"]) fun _ _ _ _ _ _ us hl => match us, hl with | [_], _ => rfl, ok_heard F E0 D DM hm⟩
  have f1 := ok_lchanged F T (z_atc X G c "_law_changed" 118 33 (tb1 _ (.head _))) (.head _) (tt_hu c (.head _)) HO d3 e4 e2 e1 e3 m6 m7 m8
  have f2 := ok_lpd F T (z_atc X G c "_law_put_or_dropped" 119 34 (tb1 _ (.tail _ (.head _)))) (.tail _ (.head _)) (tt_hu c (.tail _ (.head _))) HO d2 d3 d6 m4 m5
  have f3 := ok_lsame F T (z_at X G c "_law_same" 120 35) s6 s3 s2 s8 s5
  have f4 := ok_lright F T (z_atc X G c "_law_right" 121 36 (tb1 _ (.tail _ (.tail _ (.head _))))) (.tail _ (.tail _ (.head _))) (tt_hu c (.tail _ (.tail _ (.head _)))) HO d2 d3 d7 f2 f1 f3 m1 m2 m3 s7 m4 s2
  exact ok_law F T (z_atc X G c "law" 122 37 (tb1 _ (.tail _ (.tail _ (.tail _ (.head _)))))) (.tail _ (.tail _ (.tail _ (.head _)))) (tt_hu c (.tail _ (.tail _ (.tail _ (.head _))))) HO d1 f4 m4
theorem walk_ofGT {l : PySem.W.OpenLaw} {n k : Nat} {q : Program} {loose : List Str} {XP : (Str → Option Value) → Heap → Prop} {YP : World → Heap → Prop} {d : DefRec} {x : Str} (hn : l.most = some n) (hn2 : n ≤ sizeLine) (hdf : d.params.defaults = []) (hr : Room k callerA)
    (F : ∀ (w : World) (mg : Str → Option Value) (fa : Addr) (h : Heap), YP w h → h.Ns mainGlobals mg → mg d.name = some (.ref fa) → ∃ (K : PySem.W.Frag) (fd : FuncData) (cs : List (Addr × Addr)) (sp : Sp), K.In h ∧
      (∀ p ∈ cs, h.get? p.2 = some { cls := .none, data := .fields #[] }) ∧ (∀ p ∈ cs, K.lookup p.2 = none) ∧ (∀ p ∈ cs, PySem.W.CodeHd h p.1 p.2) ∧ (∀ (s : Shared) (u : Value), BindsTo s fd ⟨[u], []⟩ [(x, u)]) ∧
      (∀ (H : Hp) (a : Addr) (ns : List Int), ns.length ≤ n → (∀ p ∈ cs, H p.2 = some (.tbl #[])) → SqL K H a (ns.map V.int) → sp [.ref a] H (fun v _ => v = .bl true) fun _ _ _ => False) ∧
      ∀ base : Heap, K.In base → base.Ns mainGlobals mg → (∀ p ∈ cs, TabB base mg p.1 p.2) → FnG l.prog w K mg base CX0 k fa fd [x] sp) :
    PySem.W.WalkO q loose XP YP l.row.toRowW d [] (fun f vs => PySem.call f vs) := by
  refine Att.attach_callB hn hdf ?_
  intro w s₀ s mg mb fa o pm cd doc a vs ns G Y _ _ _ hmg hobj hints hlen _ hgen
  obtain ⟨K, fd, cs, sp, KX, hT, nT, C, hb, hsp, hF⟩ := F w mg fa _ Y G.T.g hmg
  have rv := vals_ints hints
  have hl : ns.length ≤ sizeLine := Nat.le_trans hlen hn2
  have nl := hints.length
  have isT : ∀ b : Addr, b ∈ cs.map (·.2) → s.heap.get? b = some { cls := .none, data := .fields #[] } := fun b hb => by
    obtain ⟨p, hp, e⟩ := List.mem_map.mp hb
    rw [← e]
    exact hT p hp
  have aT : a ∉ cs.map (·.2) := fun z => by
    have q := isT a z
    rw [hobj] at q
    have z' : Data.seq vs.toArray _ = Data.fields #[] := congrArg Obj.data (Option.some.inj q)
    cases z'
  have memT : ∀ p ∈ cs, p.2 ∈ cs.map (·.2) := fun p hp => List.mem_map.mpr ⟨p, hp, rfl⟩
  cases hk : K.lookup a with
  | some ob =>
    have e := KX a ob hk
    rw [hobj] at e
    cases e
    let H : Hp := fun b => if b ∈ cs.map (·.2) then some (.tbl #[]) else none
    have hH : ∀ p ∈ cs, H p.2 = some (.tbl #[]) := fun p hp => if_pos (memT p hp)
    refine law_coreT (H := H) KX G.T.g G.T.b G.T.builtins G.T.nolimit hgen hT nT C G.T.bmain hobj hr hF hb (hsp H a ns hlen hH (.inr ⟨_, vs.toArray, _, hk, rfl, rfl, rfl, by rw [List.size_toArray, nl]; exact hl, by simpa using rv⟩)) hH (fun b => ?_) (fun b u z => ?_) (fun b _ hb => if_neg hb) (.inl (if_neg aT))
    · by_cases hb : b ∈ cs.map (·.2)
      · exact .inr (.inl hb)
      · exact .inl (if_neg hb)
    · by_cases hb : b ∈ cs.map (·.2)
      · have z' := (if_pos hb).symm.trans z
        cases z'
        exact isT b hb
      · have z' := (if_neg hb).symm.trans z
        cases z'
  | none =>
    let H : Hp := fun b => if b = a then some (.frz { cls := .type "list", data := .seq vs.toArray } (.lst (ns.map V.int))) else if b ∈ cs.map (·.2) then some (.tbl #[]) else none
    have hH : ∀ p ∈ cs, H p.2 = some (.tbl #[]) := fun p hp => (if_neg (show ¬ p.2 = a from fun z => aT (by rw [← z]; exact memT p hp))).trans (if_pos (memT p hp))
    refine law_coreT (H := H) KX G.T.g G.T.b G.T.builtins G.T.nolimit hgen hT nT C G.T.bmain hobj hr hF hb (hsp H a ns hlen hH (.inl (.inr ⟨_, if_pos rfl⟩))) hH (fun b => ?_) (fun b u z => ?_) (fun b h1 h2 => (if_neg h1).trans (if_neg h2)) (.inr hk)
    · by_cases hb : b = a
      · exact .inr (.inr ⟨_, _, if_pos hb⟩)
      · by_cases hb2 : b ∈ cs.map (·.2)
        · exact .inr (.inl hb2)
        · exact .inl ((if_neg hb).trans (if_neg hb2))
    · by_cases hb : b = a
      · have z' := (if_pos hb).symm.trans z
        cases z'
        rw [hb]
        exact ⟨hobj, by rw [List.length_map]; exact hl, vs, _, rv, hobj⟩
      · have z1 := (if_neg hb).symm.trans z
        by_cases hb2 : b ∈ cs.map (·.2)
        · have z' := (if_pos hb2).symm.trans z1
          cases z'
          exact isT b hb2
        · have z' := (if_neg hb2).symm.trans z1
          cases z'
theorem facts {w : World} {K : PySem.W.Frag} {h : Heap} {mg : Str → Option Value} {f : Addr} (X : K.In h) (G : h.Ns mainGlobals mg) (hfa : mg ("law" : Str) = some (.ref f)) (c : SaysZ h K) :
    ∃ fd : FuncData, (∀ (s : Shared) (v : Value), BindsTo s fd ⟨[v], []⟩ [("script", v)]) ∧ ∀ base : Heap, K.In base → base.Ns mainGlobals mg → (∀ p ∈ tf.map (He.cT K), TabB base mg p.1 p.2) → FnG PGM w K mg base CX0 14 f fd ["script"] (spLaw K (TT K)) := by
  obtain ⟨fd, D⟩ := c.a.def_ 37 (d := mkD "law" 122) rfl
  have e := hfa.symm.trans (He.glo_ok X G (z_f c (m1 (x := "law") (by decide))))
  cases e
  have b := FunD.bindsA (ps := ["script"]) D fun _ _ _ _ _ _ us hl => match us, hl with | [_], _ => rfl
  refine ⟨fd, fun s v => b s [v] rfl, fun base Xb Gb tb => ?_⟩
  obtain ⟨oc, od, dV, kV, doc, pm, an, cdv, ct, osl, e1, l1, _⟩ := D.ex
  exact (z_law (w := w) X G c base tb).own _ fd hfa ⟨oc, od, osl, l1⟩
end T83
open PySem PySem.W PySem.Calls PyProof.Rows
theorem PySem.Challenge.cw_bestchance_k83_whole_shelves_beside_an_o_holds : PySem.Challenge.rw_bestchance_k83_whole_shelves_beside_an_o.Holds := by
  w_on; o_law
  refine HandSHeadRun.head_imp (r := OpenLaw.row PySem.Challenge.rw_bestchance_k83_whole_shelves_beside_an_o) (q := view (OpenLaw.row PySem.Challenge.rw_bestchance_k83_whole_shelves_beside_an_o).prog [122]) (H := T83.hk) (ob := T83.ob) (M := 20000) (loose := T83.loose) (d := HandSHeadRun.topDef (OpenLaw.row PySem.Challenge.rw_bestchance_k83_whole_shelves_beside_an_o).prog 122) (kwd := []) T83.ob_eq
    T83.runZ (by kernel_rfl) (by kernel_rfl) (by kernel_rfl) (by rfl) (by first | assumption | decide +kernel) (by decide +kernel) ⟨rfl, rfl, rfl, rfl, rfl, by decide +kernel⟩ ?hw ?hc
  case hw => w_witness2
  case hc =>
    refine T83.walk_ofGT (l := PySem.Challenge.rw_bestchance_k83_whole_shelves_beside_an_o) (n := 63) (k := 14) (x := "script") rfl (by decide) (by kernel_rfl) ⟨rfl, by decide, by decide⟩ ?F
    intro w mg fa h Y G hmg0
    obtain ⟨K, KX, c⟩ := Y
    have hmg : mg ("law" : PySem.Str) = some (.ref fa) := by
      have e : (HandSHeadRun.topDef (OpenLaw.row PySem.Challenge.rw_bestchance_k83_whole_shelves_beside_an_o).prog 122).name = ("law" : PySem.Str) := by kernel_rfl
      rw [← e]
      exact hmg0
    obtain ⟨fd, hb, hF⟩ := T83.facts (w := w) KX G hmg c
    have cs : ∀ p ∈ T83.tf.map (He.cT K), ∃ q ∈ T83.tf, He.cT K q = p := fun p hp => List.mem_map.mp hp
    refine ⟨K, fd, T83.tf.map (He.cT K), T83.spLaw K (T83.TT K), KX, fun p hp => ?_, fun p hp => ?_, fun p hp => ?_, hb, fun H a ns hlen hT hS => ⟨a, ns, rfl, hS, Nat.le_trans hlen (by decide), fun p hp => ?_, fun _ => rfl⟩, hF⟩
    · obtain ⟨q, hq, rfl⟩ := cs p hp
      exact c.empty q hq
    · obtain ⟨q, hq, rfl⟩ := cs p hp
      exact c.out q hq
    · obtain ⟨q, hq, rfl⟩ := cs p hp
      exact codeHd_of_K KX (c.hd q hq)
    · obtain ⟨q, hq, rfl⟩ := List.mem_map.mp hp
      refine LamX.TabS.nil (hT (He.cT K (q.1, none)) (List.mem_map.mpr ⟨(q.1, none), ?_, rfl⟩))
      exact (List.mem_map (f := fun q : PySem.Str × PySem.Str => ((q.1, none) : He.Defn))).mpr ⟨q, hq, rfl⟩

