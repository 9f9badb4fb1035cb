import PyProof.Rows.All
import Wide.All
import OpenK.AllK
import Wide.FinOn
import KE.KExcSuper
import HandS.Base
import HandS.Call
import HandS.Exc
import HandS.Defaults
import HandS.ForMost
import HandS.IsInst
import KE.KExcIs
import HandS.HeadEnd
import HandS.Head0
import HandS.Head1
import HandS.Head2
import HandS.HeadHook1
import HandS.HeadHook2
import HandS.Property
import PySem.Challenge.RW_neverapart_k12_matching_by_name
import HandS.TupAny
import HandS.Wide
import HandS.Deep
import HandS.Conv
import HandS.More
import HandS.Zip
import HandS.Evl
import HandS.Walk
import HandS.WideBits
import HandS.MakeKw
import HandS.OwnEq
import HandS.DictComp
import HandS.TupSets
import HandS.SetKeys
import KE.SortData
import KE.KDictCopyH
import HandS.Style
import HandS.MakeKwOnly
import HandS.NoneIn
set_option Elab.async false
set_option linter.all false
set_option maxRecDepth 100000
set_option maxHeartbeats 2000000
/-! Own errors of the form: __init__(self, f=None) says super().__init__() and self.f = f; made as values. -/
namespace NE
open PySem PySem.W PySem.Calls PyProof.Rows
def iA (f : PySem.Str) (p1 p2 p3 : Pos) : Arguments := { posonlyargs := [], args := [{ arg := "self", annotation := none, pos := p1 }, { arg := f, annotation := none, pos := p2 }], vararg := none, kwonlyargs := [], kw_defaults := [], kwarg := none, defaults := [.Constant .none 0 p3] }
def iB (f : PySem.Str) (q1 q2 q3 q4 q5 q6 q7 q8 q9 : Pos) : List Stmt := [.Expr (.Call (.Attribute (.Call (.Name "super" q1) [] [] q2) "__init__" q3) [] [] q4) q5, .Assign [.Attribute (.Name "self" q6) f q7] (.Name f q8) q9]
def iS (f : PySem.Str) : Scope := { kind := .function, names := [(PySem.Str.ofString "self", .local), (f, .local), (PySem.Str.ofString "__class__", .free), (PySem.Str.ofString "super", .globalImplicit)], isGenerator := false, isCoroutine := false, more := [] }
/-- a field's name that is none of the other names -/
def fOk (f : PySem.Str) : Bool := !(f == ("self" : PySem.Str)) && (!(("__class__" : PySem.Str) == f) && (!(("super" : PySem.Str) == f) && (!(f == ("__debug__" : PySem.Str)) && !(("self" : PySem.Str) == f))))
structure FOk (f : PySem.Str) : Prop where
  s : (f == ("self" : PySem.Str)) = false
  c : (("__class__" : PySem.Str) == f) = false
  u : (("super" : PySem.Str) == f) = false
  d : (f == ("__debug__" : PySem.Str)) = false
  t : (("self" : PySem.Str) == f) = false
theorem fOk_of {f : PySem.Str} (h : fOk f = true) : FOk f := by
  unfold fOk at h
  simp only [Bool.and_eq_true, Bool.not_eq_true'] at h
  exact ⟨h.1, h.2.1, h.2.2.1, h.2.2.2.1, h.2.2.2.2⟩
/-- what the written part says of the class x at C, its __init__ at fI, that one's code at cda and cell at cc -/
theorem fOk4 {f : PySem.Str} (h : f = "value" ∨ f = "ring" ∨ f = "most" ∨ f = "conflicts") : FOk f := by
  rcases h with rfl | rfl | rfl | rfl <;> exact fOk_of (by decide)
structure ExTxt (prog : Program) (K : Frag) (mg : PySem.Str → Option Value) (x f : PySem.Str) (C fI cda cc : Addr) : Prop where
  f4 : f = "value" ∨ f = "ring" ∨ f = "most" ∨ f = "conflicts"
  gC : mg x = some (.ref C)
  gS : mg "super" = none
  kC : keepIn K (.ref C) = true
  ini : excInitIn K C HandSPX.veTail "ValueError.__new__" = true
  iC : findIn K (.ref C) "__init__" = some (some (.ref fI))
  sup : ks_superIn K C C "__init__" = some (some (.builtin "ValueError.__init__"))
  sVE : subIn K (.ref C) (.type "ValueError") = some true
  sBE : subIn K (.ref C) (.type "BaseException") = some true
  slf : mroIn K C (.ref C) = some true
  thr : nsIn K cStatics "thirdparty.any" = some none
  sa : findIn K (.ref C) "__setattr__" = some (some (.builtin "object.__setattr__"))
  ga : findIn K (.ref C) "__getattribute__" = some (some (.builtin "BaseException.__getattribute__"))
  gg : findIn K (.ref C) "__getattr__" = some none
  no : findIn K (.ref C) f = some none
  cls : ∃ cd, clsIn K C = some cd ∧ HandSPX.refsVE cd.mro = true ∧ cd.hasDict = true
  fn : ∃ (od : Option Addr) (qual : PySem.Str) (dV kV doc pm : Value) (an : Option Addr) (ct : Value) (osl : Array (Option Value)) (p1 p2 p3 q1 q2 q3 q4 q5 q6 q7 q8 q9 : Pos),
    K.lookup fI = some ⟨.type "function", od, .func (fnX "__init__" qual (iA f p1 p2 p3) (iB f q1 q2 q3 q4 q5 q6 q7 q8 q9) (iS f) [("__class__", cc)] dV kV doc pm an (.ref cda) ct), osl⟩ ∧ codeIn K (.ref cda) qual = true ∧ (q3.endLine == q4.line) = true ∧
    ∃ (T : Addr) (o : Obj) (n : Nat), dV = .ref T ∧ K.lookup T = some o ∧ o.data = .seq #[.none] n
  code : ∃ (ccl : Value) (cdd : Option Addr) (vs : Array Value) (ccs : Array (Option Value)) (file : PySem.Str) (tf : Tok), K.lookup cda = some ⟨ccl, cdd, .fields vs, ccs⟩ ∧ vs[2]? = some (.str file tf) ∧ ((prog.main.file : PySem.Str) == file) = true
  cell : ∃ (cl : Value) (cld : Option Addr) (csl : Array (Option Value)), K.lookup cc = some ⟨cl, cld, .cell (some (.ref C)), csl⟩
  top : (prog.main.scope.names.lookup ("super" : PySem.Str)).isSome = false
/-- what __init__ leaves of a fresh error at x -/
structure InitEnd (h h' : Heap) (x C dx t1 : Addr) (f : PySem.Str) (v : Value) : Prop where
  keep : ∀ b o, b ≠ x → h.get? b = some o → h'.get? b = some o
  obj : h'.get? x = some { cls := .ref C, dict := some dx, data := .fields #[.ref t1, .none, .none, .none, .bool false, .none] }
  dbig : h.objs.size ≤ dx
  dne : dx ≠ x
  ns : h'.Ns1 dx (fun y => if y = f then some v else none)
section
variable {prog : Program} {w : World} {A : Around} {E : Value → Shared → Prop} {h : Heap} {g : Array GenState} {d : Drawn} {t : Nat} {os : OsState}
theorem call_at {o : Expr} {name : PySem.Str} {apos pos : Pos} {env : Env} (hline : (apos.endLine == pos.line) = true) : eval (.Call (.Attribute o name apos) [] [] pos) env = (do
      let ov ← attributeBase o name env (eval o env)
      standAt apos.atName
      let (f, first) ← holding [ov] (getMethod ov name (do return (← importBound o env).getD true))
      callWith pos f first (backTo pos (starEach [] env)) []) := by
  have hpos : methodCallPos true o env apos pos = pure pos := by unfold methodCallPos; simp [hline]
  rw [arm_eval_Call]
  show (do
    let ov ← attributeBase o name env (eval o env)
    standAt apos.atName
    let (f, first) ← holding [ov] (getMethod ov name (do return (← importBound o env).getD true))
    let callPos ← methodCallPos true o env apos pos
    callWith callPos f first (backTo pos (starEach [] env)) []) = _
  rw [hpos]
  rfl
/-- the bound built-in __init__ called without arguments -/
theorem mw_call {nm q : PySem.Str} {C N x u t0 : Addr} {bs bm : List Value} {hdct : Bool} {sn : List PySem.Str} {sub : List Value} {ab : Bool} {col : Option Bool} {dd : Option Addr} {k0 k1 k2 k3 k5 : Option Value} {Q : Value → Shared → Prop}
    (hC : h.get? C = some (excClassObj nm q C N bs bm hdct sn sub ab col dd k0 k1 k2 k3 k5 "ValueError.__new__")) (he : h.get? x = some (HandSPX.excO C t0)) (hu : h.get? u = some (kxs_mw "ValueError.__init__" x))
    (hq : ∀ h' t1, (∀ b o, b ≠ x → h.get? b = some o → h'.get? b = some o) → h'.get? x = some (HandSPX.excO C t1) → Q .none ⟨h', g, d, t, os⟩) :
    wpAny (model prog w) A (call (.ref u) []) Q E ⟨h, g, d, t, os⟩ := by
  refine wpAny_call (codeAny_of_tree ?_)
  show wpAny _ A.in1 (callAny (.ref u) ⟨[], []⟩) _ _ _
  simp only [callAny]
  refine wpAny_bind (wpAny_load hu ?_)
  simp only [kxs_mw, show (Value.type "method-wrapper" == Value.type "method" || Value.type "method-wrapper" == Value.type "builtin_function_or_method" || Value.type "method-wrapper" == Value.type "method-wrapper") = true by decide, if_true]
  refine KFB.if_so (by decide) ?_
  refine wpAny_bind (check_bound_init F.excBase_ValueError.toExcCallFacts hC he rfl ?_)
  refine wpAny_bind (wpAny_pure (wpAny_pure ?_))
  refine ⟨plainId_quiet F.excBase_ValueError.init.plain _, codeAny_builtin F.excBase_ValueError.initEntry ?_⟩
  exact exc_init_tree (cls := .ref C) (t0 := t0) (dv := none) (c2 := .none) (c3 := .none) (b4 := .bool false) he (Nat.zero_le _) fun h' k e1 _ => hq h' _ k e1
end
section
variable {prog : Program} {w : World} {A : Around} {R : Result → Shared → Prop} {s : Shared} {K : Frag} {mg : PySem.Str → Option Value} {base : Heap} {x f : PySem.Str} {C fI cda cc : Addr}
theorem boot_super1 : bootBuiltins "super" = some (.type "super") := by decide +kernel
theorem ex_init (T : ExTxt prog K mg x f C fI cda cc) (M : L2.Mod K mg base) (hb : ∀ b o, base.get? b = some o → s.heap.get? b = some o) {fd : FuncData} (hfd : ∃ (oc : Value) (od : Option Addr) (osl : Array (Option Value)), K.lookup fI = some ⟨oc, od, .func fd, osl⟩)
    {e t0 : Addr} {v : Value} {args : Args} (hx : s.heap.get? e = some (HandSPX.excO C t0)) (hnx : K.lookup e = none) (hroom : A.depth < recursionLimit) (hbind : BindsTo s fd args [("self", .ref e), (f, v)])
    (hq : ∀ h' tk dx t1, InitEnd s.heap h' e C dx t1 f v → R (.ok (.ret .none)) { s with heap := h', toks := tk }) :
    codeAny (model prog w) A (.call (.ref fI) args) R s := by
  obtain ⟨od, qual, dV, kV, doc, pm, an, ct, osl, p1, p2, p3, q1, q2, q3, q4, q5, q6, q7, q8, q9, ho, hcd, hline, _⟩ := T.fn
  obtain ⟨oc', od', osl', ho'⟩ := hfd
  obtain rfl : fd = fnX "__init__" qual (iA f p1 p2 p3) (iB f q1 q2 q3 q4 q5 q6 q7 q8 q9) (iS f) [("__class__", cc)] dV kV doc pm an (.ref cda) ct := by
    rw [ho] at ho'
    cases ho'
    rfl
  obtain ⟨ccl, cdd, vs, ccs, file, tf, hcode, hvs, hfile⟩ := T.code
  obtain ⟨cl, cld, csl, hcell⟩ := T.cell
  obtain ⟨cd, hcl, hmro, hhd⟩ := T.cls
  have X : K.In s.heap := M.kin.keeps hb
  have hlim : s.heap.NoLimit := M.nolimit.keeps hb
  obtain ⟨nm, N', qn, bs, bm, hdct, sn, sub, ab, col, dd, k0, k1, k2, k3, k5, hC, hT⟩ := excInit_of X T.ini
  obtain ⟨mb, hb1, hb2⟩ := M.blt
  have l1 : (iS f).names.lookup ("super" : PySem.Str) = some .globalImplicit := by
    show List.lookup ("super" : PySem.Str) [(PySem.Str.ofString "self", NameKind.local), (f, .local), (PySem.Str.ofString "__class__", .free), (PySem.Str.ofString "super", .globalImplicit)] = _
    simp only [List.lookup, (fOk4 T.f4).u]
    rfl
  have l2 : (iS f).names.lookup ("__class__" : PySem.Str) = some .free := by
    show List.lookup ("__class__" : PySem.Str) [(PySem.Str.ofString "self", NameKind.local), (f, .local), (PySem.Str.ofString "__class__", .free), (PySem.Str.ofString "super", .globalImplicit)] = _
    simp only [List.lookup, (fOk4 T.f4).c]
    rfl
  have l3 : (iS f).names.lookup ("self" : PySem.Str) = some .local := rfl
  have l4 : (iS f).names.lookup f = some .local := by
    show List.lookup f [(PySem.Str.ofString "self", NameKind.local), (f, .local), (PySem.Str.ofString "__class__", .free), (PySem.Str.ofString "super", .globalImplicit)] = _
    have e1 : (f == PySem.Str.ofString "self") = false := (fOk4 T.f4).s
    simp only [List.lookup, e1, beq_self_eq_true]
  have hm1 : ([("self", Value.ref e), (f, v)] : List (PySem.Str × Value)).reverse.lookup ("self" : PySem.Str) = some (.ref e) := by
    show List.lookup ("self" : PySem.Str) [(f, v), ("self", Value.ref e)] = _
    simp only [List.lookup, (fOk4 T.f4).t, beq_self_eq_true]
  have hm2 : ([("self", Value.ref e), (f, v)] : List (PySem.Str × Value)).reverse.lookup f = some v := by
    show List.lookup f [(f, v), ("self", Value.ref e)] = _
    simp only [List.lookup, beq_self_eq_true]
  refine ks_codeAny_call_defAt (fd := fnX "__init__" qual (iA f p1 p2 p3) (iB f q1 q2 q3 q4 q5 q6 q7 q8 q9) (iS f) [("__class__", cc)] dV kV doc pm an (.ref cda) ct) (binds := [("self", .ref e), (f, v)]) hroom (X _ _ ho) rfl hlim (codeRec_of X hcd) rfl hbind ?_ ?_ (fun h₁ hns hk₁ => ?_)
  · intro y hy
    have hy' : y ∈ [(PySem.Str.ofString "self", NameKind.local), (f, .local), (PySem.Str.ofString "__class__", .free), (PySem.Str.ofString "super", .globalImplicit)] := hy
    simp only [List.mem_cons, List.not_mem_nil, or_false] at hy'
    rcases hy' with rfl | rfl | rfl | rfl <;> (intro z; cases z)
  · intro y hy
    simp only [List.mem_cons, List.not_mem_nil, or_false] at hy
    rcases hy with rfl | rfl
    · exact l3
    · exact l4
  have X₁ : K.In h₁ := X.keeps hk₁
  have hbb : ∀ b o, base.get? b = some o → h₁.get? b = some o := fun b o z => hk₁ b o (hb b o z)
  have hx₁ := hk₁ _ _ hx
  have hxL : e ≠ s.heap.objs.size := Nat.ne_of_lt (Heap.lt_size hx)
  obtain ⟨oD, hD1, hD2⟩ : ∃ oD, h₁.get? C = some oD ∧ oD.data = .cls cd := by
    unfold clsIn at hcl
    split at hcl
    · rename_i c d cd' sl hoo
      cases hcl
      exact ⟨_, X₁ _ _ hoo, rfl⟩
    · cases hcl
  have hne : e ≠ C := by
    rintro rfl
    rw [hx₁] at hD1
    cases hD1
    cases hD2
  show _root_.PySem.wpAt (model prog w) (A.deeper (ksEnv qual (iS f) s.heap.objs.size fI (.ref cda) cc)) (.func (iB f q1 q2 q3 q4 q5 q6 q7 q8 q9) (ksEnv qual (iS f) s.heap.objs.size fI (.ref cda) cc))
    (execs [.Expr (.Call (.Attribute (.Call (.Name "super" q1) [] [] q2) "__init__" q3) [] [] q4) q5, .Assign [.Attribute (.Name "self" q6) f q7] (.Name f q8) q9] (ksEnv qual (iS f) s.heap.objs.size fI (.ref cda) cc)) _ _ _
  refine ks_wpAt_execs_cons (ks_wpAt_Expr_any (ks_wpAt_MethodCall ?_ (call_at hline)))
  refine ks_wpAt_super_base (env := ksEnv qual (iS f) s.heap.objs.size fI (.ref cda) cc) l1 l2 (by decide) rfl (X₁ _ _ ho) rfl rfl rfl (X₁ _ _ hcode) rfl hvs hfile T.top ?_
  refine ks_loadName_global rfl l1 (loadGlobal_builtin (env := ksEnv qual (iS f) s.heap.objs.size fI (.ref cda) cc) (M.glob.keeps hbb) T.gS (hb1.keeps hbb) ((hb2 _ (by decide)).trans boot_super1) ⟨rfl, ?_⟩)
  refine wpAny_loadName_free rfl l2 rfl ⟨_, X₁ _ _ hcell, rfl⟩ ?_
  refine wpAny_loadName_local rfl l3 hns hm1 ?_
  refine ks_wpAny_isType_cls hD1 hD2 ⟨rfl, ?_⟩
  refine ks_wpAny_call_super hD1 hD2 hx₁ rfl (fun c z => by cases z) (looks_mroIn X₁ T.slf) (fun h₂ hso k₂ => ?_)
  have X₂ : K.In h₂ := X₁.keeps k₂
  have hx₂ := k₂ _ _ hx₁
  have I₂ : InstAt h₂ e (HandSPX.excO C t0) C none := ⟨hx₂, rfl, rfl, trivial⟩
  have hsup : alongIn K "__init__" ((cd.mro.dropWhile (· != .ref C)).drop 1) = some (some (.builtin "ValueError.__init__")) := by
    have z := T.sup
    unfold ks_superIn at z
    rw [hcl] at z
    exact z
  refine kxs_getMethod kxs_ValueError hso (looks_opaque X₂ T.thr) (l₀ := cd.mro) (fun A Q E s k q => wpAny_bind ((looks_clsIn X₂ hcl) A _ E s k (wpAny_pure q))) rfl X₂ hsup (I₂.type.andThen (looks_subIn X₂ T.sVE)) hne (by decide) ?_
  have k₃ : ∀ b o, h₂.get? b = some o → (h₂.push (kxs_mw "ValueError.__init__" e)).get? b = some o := fun b o z => Heap.get?_push_of_some _ z
  have hmw : (h₂.push (kxs_mw "ValueError.__init__" e)).get? h₂.objs.size = some (kxs_mw "ValueError.__init__" e) := Heap.get?_push_at rfl rfl
  refine kxs_callWith (i := "ValueError.__init__") (x := e) rfl (evalArgs_empty ⟨hmw, ?_⟩)
  refine mw_call (k₃ _ _ (k₂ _ _ (hk₁ _ _ hC))) (k₃ _ _ hx₂) hmw fun h₄ t1 k₄ hx₄ => ?_
  have old : ∀ b o, b ≠ e → h₁.get? b = some o → h₄.get? b = some o := fun b o hbe z => k₄ b o hbe (k₃ _ _ (k₂ _ _ z))
  have X₄ : K.In h₄ := fun a o z => old a o (fun q => by rw [q, hnx] at z; cases z) (X₁ _ _ z)
  have hns₄ : h₄.Ns s.heap.objs.size (fun y => ([("self", Value.ref e), (f, v)] : List (PySem.Str × Value)).reverse.lookup y) := by
    obtain ⟨oL, es, ep, hL, r⟩ := hns
    exact ⟨oL, es, ep, old _ _ hxL.symm hL, r⟩
  refine wpAt_of_wpAny ?_
  refine wpAny_execs_cons (plainObj_wpAny_Assign_Attribute ?_ (by rfl))
  refine wpAny_Name (wpAny_loadName_local (env := ksEnv qual (iS f) s.heap.objs.size fI (.ref cda) cc) rfl l4 hns₄ hm2 ?_) (fOk4 T.f4).d
  refine wpAny_Name (wpAny_loadName_local (env := ksEnv qual (iS f) s.heap.objs.size fI (.ref cda) cc) rfl l3 hns₄ hm1 ?_) (by decide)
  refine set_plain X₄ (ox := HandSPX.excO C t1) (od := none) ⟨hx₄, rfl, rfl, trivial⟩ T.sa ?_
  refine HandSPX.exc_osa X₄ hx₄ hcl hmro hhd T.no (fun h₅ tk₅ dx k₅ dn dne hx₅ hn₅ => ?_)
  show wpAny _ _ (execs _ _) _ _ _
  refine wpAny_execs_nil (hq h₅ tk₅ dx t1 ⟨fun b o hbe z => k₅ b o hbe (old b o hbe (hk₁ b o z)), hx₅, Nat.le_of_lt (Nat.lt_of_lt_of_le hns₄.lt dn), dne, hn₅⟩)
/-- an error made: a new object e of the class C whose own dict d holds f = v -/
structure OwnMade (h h' : Heap) (e C d : Addr) (f : PySem.Str) (v : Value) : Prop where
  keep : ∀ b o, h.get? b = some o → h'.get? b = some o
  new : h.objs.size ≤ e
  obj : ∃ t1, h'.get? e = some { cls := .ref C, dict := some d, data := .fields #[.ref t1, .none, .none, .none, .bool false, .none] }
  dbig : h.objs.size ≤ d
  dne : d ≠ e
  ns : h'.Ns1 d (fun y => if y = f then some v else none)
theorem ex_bind {qual f : PySem.Str} {p1 p2 p3 : Pos} {body : List Stmt} {scope : Scope} {cl : List (PySem.Str × Addr)} {TT : Addr} {kV doc pm cdv ct : Value} {an : Option Addr} {s : Shared} {o : Obj} {n : Nat} {args : Args} {r : List (PySem.Str × Value)} (X : K.In s.heap) (lT : K.lookup TT = some o) (oT : o.data = .seq #[.none] n)
    (h : ∃ k, bindArgs (fnX "__init__" qual (iA f p1 p2 p3) body scope cl (.ref TT) kV doc pm an cdv ct) args = seqItems? (.ref TT) >>= k ∧ k (some #[.none]) = pure r) : BindsTo s (fnX "__init__" qual (iA f p1 p2 p3) body scope cl (.ref TT) kV doc pm an cdv ct) args r := by
  refine L2.BindsTo.of_looks fun M => ?_
  obtain ⟨k, a1, a2⟩ := h
  rw [a1]
  exact L2.looks_items X lT oT (.of_pure a2)
theorem ex_fd (T : ExTxt prog K mg x f C fI cda cc) : ∃ fd, (∃ (oc : Value) (od : Option Addr) (osl : Array (Option Value)), K.lookup fI = some ⟨oc, od, .func fd, osl⟩) ∧
    (∀ (s : Shared) (e : Addr) (v : Value), K.In s.heap → BindsTo s fd ⟨[.ref e, v], []⟩ [("self", .ref e), (f, v)]) ∧ (∀ (s : Shared) (e : Addr), K.In s.heap → BindsTo s fd ⟨[.ref e], []⟩ [("self", .ref e), (f, .none)]) ∧
    (∀ (s : Shared) (e : Addr) (v : Value), K.In s.heap → BindsTo s fd ⟨[.ref e], [(f, v)]⟩ [("self", .ref e), (f, v)]) := by
  obtain ⟨od, qual, dV, kV, doc, pm, an, ct, osl, p1, p2, p3, q1, q2, q3, q4, q5, q6, q7, q8, q9, ho, hcd, hline, TT, o, n, rfl, lT, oT⟩ := T.fn
  have h4 := T.f4
  refine ⟨_, ⟨_, _, _, ho⟩, fun s e v X => ex_bind X lT oT ?_, fun s e X => ex_bind X lT oT ?_, fun s e v X => ex_bind X lT oT ?_⟩
  · rcases h4 with rfl | rfl | rfl | rfl <;> exact ⟨_, rfl, rfl⟩
  · rcases h4 with rfl | rfl | rfl | rfl <;> exact ⟨_, rfl, rfl⟩
  · rcases h4 with rfl | rfl | rfl | rfl <;> exact ⟨_, rfl, rfl⟩
theorem ex_made0 (T : ExTxt prog K mg x f C fI cda cc) (M : L2.Mod K mg base) (hb : ∀ b o, base.get? b = some o → s.heap.get? b = some o) {rest : List Value} {v : Value} (hrest : rest.length ≤ sizeLine) (hroom : A.depth + 1 < recursionLimit)
    (hbind : ∀ (fd : FuncData) (s : Shared) (e : Addr), K.In s.heap → (∀ (s : Shared) (e : Addr) (v : Value), K.In s.heap → BindsTo s fd ⟨[.ref e, v], []⟩ [("self", .ref e), (f, v)]) → (∀ (s : Shared) (e : Addr), K.In s.heap → BindsTo s fd ⟨[.ref e], []⟩ [("self", .ref e), (f, .none)]) → BindsTo s fd ⟨.ref e :: rest, []⟩ [("self", .ref e), (f, v)])
    (hq : ∀ h' tk e d, OwnMade s.heap h' e C d f v → R (.ok (.ret (.ref e))) { s with heap := h', toks := tk }) :
    codeAny (model prog w) A (.call (.ref C) ⟨rest, []⟩) R s := by
  have X : K.In s.heap := M.kin.keeps hb
  obtain ⟨fd, hfd, b1, b2, b3⟩ := ex_fd T
  obtain ⟨nm, N', qn, bs, bm, hdct, sn, sub, ab, col, dd, k0, k1, k2, k3, k5, hC, hT⟩ := excInit_of X T.ini
  obtain ⟨hp, g, dr, tk, os⟩ := s
  have k : ∀ b o, hp.get? b = some o → ((hp.push (kdv_tup rest)).push (HandSPX.excO C hp.objs.size)).get? b = some o := fun b o e => Heap.get?_push_of_some _ (Heap.get?_push_of_some _ e)
  have hget : ((hp.push (kdv_tup rest)).push (HandSPX.excO C hp.objs.size)).get? (hp.objs.size + 1) = some (HandSPX.excO C hp.objs.size) := by heap_get
  have hnx : K.lookup (hp.objs.size + 1) = none := by
    cases e : K.lookup (hp.objs.size + 1) with
    | none => rfl
    | some o =>
      have z : hp.get? (hp.objs.size + 1) = some o := X _ _ e
      exact absurd (Nat.lt_of_succ_lt (Heap.lt_size z)) (Nat.lt_irrefl _)
  have tI : typeIn K (.ref fI) = some (.type "function") := by
    obtain ⟨od, qual, dV, kV, doc, pm, an, ct, osl, p1, p2, p3, q1, q2, q3, q4, q5, q6, q7, q8, q9, ho, _⟩ := T.fn
    show (K.lookup fI).map (·.cls) = _
    rw [ho]
    rfl
  refine HandSPX.call_own F.excBase_ValueError hT hC (looks_findIn X T.iC) (fun self => bind_fn X self tI) hrest ?_
  refine ex_init (s := ⟨(hp.push (kdv_tup rest)).push (HandSPX.excO C hp.objs.size), g, dr, tk, os⟩) T M (fun b o z => k b o (hb b o z)) hfd hget hnx ?_ (hbind fd _ _ (X.keeps k) b1 b2) fun h' tk' dx t1 ⟨k', hx, dn, dne, hns⟩ => ?_
  · show A.depth + 1 < recursionLimit
    exact hroom
  · have old : ∀ b o, hp.get? b = some o → h'.get? b = some o := fun b o e => k' b o (Nat.ne_of_lt (Nat.lt_succ_of_lt (Heap.lt_size e))) (k b o e)
    have z : hp.objs.size + 1 + 1 ≤ dx := by
      have q := dn
      rw [show ((hp.push (kdv_tup rest)).push (HandSPX.excO C hp.objs.size)).objs.size = hp.objs.size + 1 + 1 by rw [Heap.size_push, Heap.size_push]] at q
      exact q
    exact ⟨rfl, hq h' tk' (hp.objs.size + 1) dx ⟨old, Nat.le_succ _, ⟨_, hx⟩, Nat.le_trans (Nat.le_trans (Nat.le_succ _) (Nat.le_succ _)) z, dne, hns⟩⟩
/-- C(v) -/
theorem ex_made (T : ExTxt prog K mg x f C fI cda cc) (M : L2.Mod K mg base) (hb : ∀ b o, base.get? b = some o → s.heap.get? b = some o) {v : Value} (hroom : A.depth + 1 < recursionLimit)
    (hq : ∀ h' tk e d, OwnMade s.heap h' e C d f v → R (.ok (.ret (.ref e))) { s with heap := h', toks := tk }) : codeAny (model prog w) A (.call (.ref C) ⟨[v], []⟩) R s :=
  ex_made0 T M hb (by show 1 ≤ sizeLine; decide) hroom (fun fd s e X b1 _ => b1 s e v X) hq
/-- C() -/
theorem ex_bare (T : ExTxt prog K mg x f C fI cda cc) (M : L2.Mod K mg base) (hb : ∀ b o, base.get? b = some o → s.heap.get? b = some o) (hroom : A.depth + 1 < recursionLimit)
    (hq : ∀ h' tk e d, OwnMade s.heap h' e C d f .none → R (.ok (.ret (.ref e))) { s with heap := h', toks := tk }) : codeAny (model prog w) A (.call (.ref C) ⟨[], []⟩) R s :=
  ex_made0 T M hb (Nat.zero_le _) hroom (fun fd s e X _ b2 => b2 s e X) hq
end
end NE

set_option Elab.async false
set_option linter.all false
set_option maxRecDepth 100000
set_option maxHeartbeats 2000000
namespace NE
open PySem PySem.W PySem.Calls PyProof.Rows HandSPX
section
variable {prog : Program} {w : World} {M : Model} {A : Around} {E : Value → Shared → Prop} {R : Result → Shared → Prop} {h : Heap} {g : Array GenState} {d : Drawn} {t : Nat} {os : OsState}
variable {nm q : PySem.Str} {C N : Addr} {bs bm bmB : List Value} {hdct : Bool} {sn : List PySem.Str} {sub : List Value} {ab : Bool} {col : Option Bool} {dd : Option Addr} {k0 k1 k2 k3 k5 : Option Value} {B newId initId : String} {f : PySem.Str} {v : Value}
/-- the built-in __new__ looks at no keyword -/
theorem kw_check_new (F : ExcBaseFacts B newId initId bmB) (hT : ∀ X : String, bm.contains (.type X) = bmB.contains (.type X)) {Q : Unit → Shared → Prop}
    (hC : h.get? C = some (excClassObj nm q C N bs bm hdct sn sub ab col dd k0 k1 k2 k3 k5 newId)) (hq : Q () ⟨h, g, d, t, os⟩) : wpAny M A (checkBuiltinCall newId ⟨[.ref C], [(f, v)]⟩) Q E ⟨h, g, d, t, os⟩ := by
  have c1 : (Value.ref C :: bm).contains (.type B) = true := by rw [List.contains_cons, hT, F.hasB, Bool.or_true]
  have c2 := F.noStar
  simp only [checkBuiltinCall, F.newKind, F.newSplit, F.newRow]
  repeat (first | refine wpAny_loadPart_at hC ?_ | (refine wpAny_isSubtype_exc hC ?_; rw [c1]) | refine wpAny_staticBase_exc hC ?_ | refine wpAny_madeBy_exc hC ?_ | simp only [bne_self_eq_false, Bool.false_eq_true, if_false] | wp_step)
  exact hq
theorem kw_new (F : ExcBaseFacts B newId initId bmB) (hT : ∀ X : String, bm.contains (.type X) = bmB.contains (.type X))
    (hC : h.get? C = some (excClassObj nm q C N bs bm hdct sn sub ab col dd k0 k1 k2 k3 k5 newId))
    (hq : R (.ok (.ret (.ref (h.objs.size + 1)))) ⟨(h.push { cls := .type "tuple", data := .seq ([] : List Value).toArray }).push { cls := .ref C, data := .fields #[.ref h.objs.size, .none, .none, .none, .bool false, .none] }, g, d, t, os⟩) :
    codeAny (model prog w) A (.builtin newId ⟨[.ref C], [(f, v)]⟩) R ⟨h, g, d, t, os⟩ := by
  have c0 := F.ends
  have c1 : (Value.ref C :: bm).contains (.type B) = true := by rw [List.contains_cons, hT, F.hasB, Bool.or_true]
  have c2 : (Value.ref C :: bm).contains (.type "AttributeError") = false := by rw [List.contains_cons, hT, F.noAttr]; rfl
  have c3 : (Value.ref C :: bm).contains (.type "NameError") = false := by rw [List.contains_cons, hT, F.noName]; rfl
  have hrest : ([] : List Value).length ≤ sizeLine := Nat.zero_le _
  refine codeAny_builtinAt F.entry ?_
  unfold Builtin.«BaseException.__new__»
  refine _root_.PySem.wpAt_bind ?_
  show _root_.PySem.wpAt _ _ _ (stack >>= _) _ _ _
  refine _root_.PySem.wpAt_bind (_root_.PySem.wpAt_stack fun p below => _root_.PySem.wpAt_of_wpAny ?_)
  wp_walk
  refine _root_.PySem.wpAt_of_wpAny ?_
  rw [F.owner]
  repeat (first | with_reducible refine wpAny_madeHere_exc F.canon hC ?_ | with_reducible refine wpAny_loadPart_at hC ?_ | (with_reducible refine wpAny_isSubtype_exc hC ?_; first | rw [c1] | rw [c2] | rw [c3]) | wp_step)
  show R _ _
  rw [Heap.size_push]
  exact hq
theorem kw_type_call (F : ExcBaseFacts B newId initId bmB) (hT : ∀ X : String, bm.contains (.type X) = bmB.contains (.type X)) {fI : Addr} {Q : Fin → Shared → Prop}
    (hC : h.get? C = some (excClassObj nm q C N bs bm hdct sn sub ab col dd k0 k1 k2 k3 k5 newId))
    (hi : Looks (model prog w) h (typeLookup (.ref C) "__init__") (some (.ref fI))) (hb : ∀ self, Looks (model prog w) h (bindSpecial (.ref fI) self) (.ref fI, [self]))
    (hq : codeAny (model prog w) A (.call (.ref fI) ⟨[.ref (h.objs.size + 1)], [(f, v)]⟩)
      (fun r s' => match r with | .ok (.ret v) => v = .none ∧ Q (.done (.ret (.ref (h.objs.size + 1)))) s' | .ok _ => False | .error e => E e s') ⟨(h.push (kdv_tup [])).push (excO C h.objs.size), g, d, t, os⟩) :
    wpAny (model prog w) A (Builtin.«type.__call__» ⟨[.ref C], [(f, v)]⟩) Q E ⟨h, g, d, t, os⟩ := by
  repeat (first | with_reducible refine wpAny_loadPart_at hC ?_ | with_reducible refine wpAny_madeBy_exc hC ?_ | wp_step)
  refine codeAny_call_builtin_code (Code.quiet_builtin _ F.quiet) (kw_check_new F hT hC ?_)
  refine kw_new F hT hC ?_
  show wpAny _ _ _ _ _ _
  have k : ∀ b o, h.get? b = some o → ((h.push (kdv_tup [])).push (excO C h.objs.size)).get? b = some o := fun b o e => Heap.get?_push_of_some _ (Heap.get?_push_of_some _ e)
  have c1 := k _ _ hC
  have c2 : ((h.push (kdv_tup [])).push (excO C h.objs.size)).get? (h.objs.size + 1) = some (excO C h.objs.size) := by heap_get
  have c3 : (Value.ref C :: bm).contains (.ref C) = true := by simp
  have i1 := hi.keeps k
  have b1 := (hb (.ref (h.objs.size + 1))).keeps k
  unfold isInstance
  repeat (first | with_reducible refine wpAny_loadPart_at c2 ?_ | (with_reducible refine wpAny_isSubtype_exc c1 ?_; rw [c3]) | wp_step)
  show wpAny _ _ (typeLookup (.ref C) _) _ _ _
  refine i1.at ?_
  refine wpAny_holding (wpAny_bind (b1.at ?_))
  refine wpAny_bind (wpAny_call (codeAny_mono hq fun r s' z => ?_))
  rcases r with e | (v | _ | _ | _) <;> first | exact z | exact z.elim | skip
  obtain ⟨rfl, z⟩ := z
  first
    | exact wpAny_pure (wpAny_pure z)
    | (wp_walk; exact z)
theorem kw_call (F : ExcBaseFacts B newId initId bmB) (hT : ∀ X : String, bm.contains (.type X) = bmB.contains (.type X)) {fI : Addr}
    (hC : h.get? C = some (excClassObj nm q C N bs bm hdct sn sub ab col dd k0 k1 k2 k3 k5 newId))
    (hi : Looks (model prog w) h (typeLookup (.ref C) "__init__") (some (.ref fI))) (hb : ∀ self, Looks (model prog w) h (bindSpecial (.ref fI) self) (.ref fI, [self]))
    (hq : codeAny (model prog w) (A.under (.builtin "type.__call__" ⟨[.ref C], [(f, v)]⟩)) (.call (.ref fI) ⟨[.ref (h.objs.size + 1)], [(f, v)]⟩) (InitBack (h.objs.size + 1) R) ⟨(h.push (kdv_tup [])).push (excO C h.objs.size), g, d, t, os⟩) :
    codeAny (model prog w) A (.call (.ref C) ⟨[], [(f, v)]⟩) R ⟨h, g, d, t, os⟩ := by
  have f1 := tc_lookup
  have f2 := tc_bind (.ref C)
  have f3 : (⟨h, g, d, t, os⟩ : Shared).TypeIs (.ref C) "type" := ⟨_, hC, rfl⟩
  refine codeAny_of_tree ?_
  show wpAny _ _ (callAny (.ref C) _) _ _ _
  repeat (any_goals (first | assumption | with_reducible refine wpAny_loadPart_at hC ?_ | wp_step))
  refine ⟨rfl, ?_⟩
  refine codeAny_call_builtin_at (Code.quiet_builtin _ (by decide +kernel)) entry_typeCall (wpAny_check_type_call_sub hC (kw_type_call F hT hC hi hb ?_))
  refine codeAny_mono hq fun r s' z => ?_
  rcases r with e | (v | _ | _ | _) <;> exact z
end
section
variable {prog : Program} {w : World} {A : Around} {R : Result → Shared → Prop} {s : Shared} {K : Frag} {mg : PySem.Str → Option Value} {base : Heap} {x f : PySem.Str} {C fI cda cc : Addr}
/-- C(f = v) -/
theorem ex_kw (T : ExTxt prog K mg x f C fI cda cc) (M : L2.Mod K mg base) (hb : ∀ b o, base.get? b = some o → s.heap.get? b = some o) {v : Value} (hroom : A.depth + 1 < recursionLimit)
    (hq : ∀ h' tk e d, OwnMade s.heap h' e C d f v → R (.ok (.ret (.ref e))) { s with heap := h', toks := tk }) : codeAny (model prog w) A (.call (.ref C) ⟨[], [(f, v)]⟩) R s := by
  have X : K.In s.heap := M.kin.keeps hb
  obtain ⟨fd, hfd, b1, b2, b3⟩ := ex_fd T
  obtain ⟨nm, N', qn, bs, bm, hdct, sn, sub, ab, col, dd, k0, k1, k2, k3, k5, hC, hT⟩ := excInit_of X T.ini
  obtain ⟨hp, g, dr, tk, os⟩ := s
  have k : ∀ b o, hp.get? b = some o → ((hp.push (kdv_tup [])).push (excO C hp.objs.size)).get? b = some o := fun b o e => Heap.get?_push_of_some _ (Heap.get?_push_of_some _ e)
  have hget : ((hp.push (kdv_tup [])).push (excO C hp.objs.size)).get? (hp.objs.size + 1) = some (excO C hp.objs.size) := by heap_get
  have hnx : K.lookup (hp.objs.size + 1) = none := by
    cases e : K.lookup (hp.objs.size + 1) with
    | none => rfl
    | some o => exact absurd (Nat.lt_of_succ_lt (Heap.lt_size (X _ _ e))) (Nat.lt_irrefl _)
  have tI : typeIn K (.ref fI) = some (.type "function") := by
    obtain ⟨od, qual, dV, kV, doc, pm, an, ct, osl, p1, p2, p3, q1, q2, q3, q4, q5, q6, q7, q8, q9, ho, _⟩ := T.fn
    show (K.lookup fI).map (·.cls) = _
    rw [ho]
    rfl
  refine kw_call F.excBase_ValueError hT hC (looks_findIn X T.iC) (fun self => bind_fn X self tI) ?_
  refine ex_init (s := ⟨(hp.push (kdv_tup [])).push (excO C hp.objs.size), g, dr, tk, os⟩) T M (fun b o z => k b o (hb b o z)) hfd hget hnx ?_ (b3 _ _ v (X.keeps k)) fun h' tk' dx t1 ⟨k', hx, dn, dne, hns⟩ => ?_
  · show A.depth + 1 < recursionLimit
    exact hroom
  · have old : ∀ b o, hp.get? b = some o → h'.get? b = some o := fun b o e => k' b o (Nat.ne_of_lt (Nat.lt_succ_of_lt (Heap.lt_size e))) (k b o e)
    have z : hp.objs.size + 1 + 1 ≤ dx := by
      have q := dn
      rw [show ((hp.push (kdv_tup [])).push (excO C hp.objs.size)).objs.size = hp.objs.size + 1 + 1 by rw [Heap.size_push, Heap.size_push]] at q
      exact q
    exact ⟨rfl, hq h' tk' (hp.objs.size + 1) dx ⟨old, Nat.le_succ _, ⟨_, hx⟩, Nat.le_trans (Nat.le_trans (Nat.le_succ _) (Nat.le_succ _)) z, dne, hns⟩⟩
end
end NE

set_option Elab.async false
set_option linter.all false
set_option maxRecDepth 100000
set_option maxHeartbeats 2000000
namespace NE
open PySem PySem.Spec PyProof.Rows L2
/-- an error of the class C at e, its own dict at d (H d tells its field); one without a dict -/
def EH (C d e : Addr) : HO := .ext fun h => ∃ t1 : Addr, h.get? e = some { cls := .ref C, dict := some d, data := .fields #[.ref t1, .none, .none, .none, .bool false, .none] }
def EB (C e : Addr) : HO := .ext fun h => ∃ t1 : Addr, h.get? e = some { cls := .ref C, dict := none, data := .fields #[.ref t1, .none, .none, .none, .bool false, .none] }
theorem eh_ok {P : Program} {w : World} {H : Hp} {h : Heap} {C d e t1 : Addr} (he : h.get? e = some { cls := .ref C, dict := some d, data := .fields #[.ref t1, .none, .none, .none, .bool false, .none] }) : ObjOk P w H h e (EH C d e) :=
  ⟨⟨t1, he⟩, ⟨_, he⟩, fun _ _ ⟨t, q⟩ k => ⟨t, k _ q⟩⟩
theorem eb_ok {P : Program} {w : World} {H : Hp} {h : Heap} {C e t1 : Addr} (he : h.get? e = some { cls := .ref C, dict := none, data := .fields #[.ref t1, .none, .none, .none, .bool false, .none] }) : ObjOk P w H h e (EB C e) :=
  ⟨⟨t1, he⟩, ⟨_, he⟩, fun _ _ ⟨t, q⟩ k => ⟨t, k _ q⟩⟩
section
variable {fs ex : List Addr} {H : Hp} {h h' : Heap} {a b : Addr} {o u : HO}
theorem un_two (k : ∀ c v, h.get? c = some v → h'.get? c = some v) (ha : h.objs.size ≤ a) (hb : h.objs.size ≤ b) (na : H a = none) (nb : H b = none) : Un fs ex H (upd (upd H a o) b u) h h' where
  keep := fun c v q _ _ _ => k c v q
  slot := fun c v q _ _ _ => ⟨v.slots, k c v q⟩
  free := fun c v q n _ => by
    have l := Heap.lt_size q
    rw [upd_ne (Nat.ne_of_lt (Nat.lt_of_lt_of_le l hb)), upd_ne (Nat.ne_of_lt (Nat.lt_of_lt_of_le l ha))]
    exact n
  there := fun c v q _ => ⟨v, k c v q⟩
  tups := fun c xs q => by rw [upd_ne (ne_of_none q nb), upd_ne (ne_of_none q na)]; exact q
  frzs := fun c v xs q => by rw [upd_ne (ne_of_none q nb), upd_ne (ne_of_none q na)]; exact q
  tbls := fun c ps q => ⟨#[], by rw [upd_ne (ne_of_none q nb), upd_ne (ne_of_none q na), q]; simp⟩
theorem hok_two {P : Program} {w : World} (x : HOk P w H h) (k : ∀ c v, h.get? c = some v → h'.get? c = some v) (na : H a = none) (nb : H b = none) (ne : a ≠ b) (n1 : ObjOk P w (upd (upd H a o) b u) h' a o) (n2 : ObjOk P w (upd (upd H a o) b u) h' b u) : HOk P w (upd (upd H a o) b u) h' := fun c v e => by
  by_cases hb : c = b
  · subst hb
    rw [upd_same] at e
    cases e
    exact n2
  · rw [upd_ne hb] at e
    by_cases ha : c = a
    · subst ha
      rw [upd_same] at e
      cases e
      exact n1
    · rw [upd_ne ha] at e
      exact (x c v e).stay (fun c v _ q => k c v q) (fun c q => by rw [upd_ne (ne_of_none q nb), upd_ne (ne_of_none q na)]; exact q) fun c xs q => by rw [upd_ne (ne_of_none q nb), upd_ne (ne_of_none q na)]; exact q
end
section
variable {X : Cx} {pins : List (Addr × Obj)} {σ : L2.St} {H : Hp} {s : Shared}
theorem inv_two {h' : Heap} {a b : Addr} {o u : HO} {t' : Nat} (I : Inv X pins σ H s) (k : ∀ c v, s.heap.get? c = some v → h'.get? c = some v) (ha : s.heap.objs.size ≤ a) (hb : s.heap.objs.size ≤ b) (ne : a ≠ b) (n1 : ObjOk X.prog X.w (upd (upd H a o) b u) h' a o)
    (n2 : ObjOk X.prog X.w (upd (upd H a o) b u) h' b u) : Inv X pins σ (upd (upd H a o) b u) { s with heap := h', toks := t' } :=
  I.un (un_two k ha hb (I.hok.fresh ha) (I.hok.fresh hb)) (hok_two I.hok k (I.hok.fresh ha) (I.hok.fresh hb) ne n1 n2)
theorem relO_one {f g : PySem.Str} {v : V} {u : Value} (r : RelV v u) : RelO (List.lookup g [(f, v)]) (if g = f then some u else none) := by
  by_cases hw : g = f
  · subst hw
    rw [if_pos rfl, show List.lookup g [(g, v)] = some v by simp [List.lookup]]
    exact r
  · rw [if_neg hw, show List.lookup g [(f, v)] = none by simp [List.lookup, (beq_eq_false_iff_ne.mpr hw : (g == f) = false)]]
    trivial
end
/-- what is asked of an error's making: a value v, then of every new error -/
def kErr (C : Addr) (f : PySem.Str) (v : V) : Hp → VK → Prop := fun H Q => ∀ e d, H e = none → H d = none → d ≠ e → Q (.ref e) (upd (upd H d (.xd [(f, v)])) e (EH C d e))
def tErr (C : Addr) (f : PySem.Str) (ta : TA) : TE := fun σ H Q => ta σ H fun vs H1 => ∃ v, vs = [v] ∧ kErr C f v H1 Q
def tErr0 (C : Addr) (f : PySem.Str) : TE := fun _ H Q => kErr C f .non H Q
def tErrB (C : Addr) : TE := fun _ H Q => ∀ e, H e = none → Q (.ref e) (upd H e (EB C e))
section
variable {X : Cx} {x f : PySem.Str} {C fI cda cc : Addr} {p pos : Pos} {k : Nat}
theorem err_done {pins : List (Addr × Obj)} {σ : L2.St} {H : Hp} {s : Shared} {Q : VK} {h' : Heap} {tk : Nat} {e d : Addr} {v : V} {u : Value} (I : Inv X pins σ H s) (r : RelV v u) (M : OwnMade s.heap h' e C d f u) (h : kErr C f v H Q) :
    EP X pins σ Q (.ref e) { s with heap := h', toks := tk } := by
  obtain ⟨t1, hoe⟩ := M.obj
  refine ⟨.ref e, _, inv_two (t' := tk) I M.keep M.dbig M.new M.dne ?_ (eh_ok hoe), rfl, h e d (I.hok.fresh M.new) (I.hok.fresh M.dbig) M.dne⟩
  exact ⟨_, M.ns, fun g => relO_one r⟩
theorem pe_err {a : Expr} {ta : TA} (T : ExTxt X.prog X.K X.mg x f C fI cda cc) (hr : Room k X.A) (ha : PA X [a] ta) (hg : Gl X x := by rfl) (hd : (x == ("__debug__" : PySem.Str)) = false := by decide)
    (he : starEach (a :: []) X.env = (false, eval a X.env) :: starEach [] X.env := by rfl) (hpl : (backTo pos (starEach [] X.env)).any (·.1) = false := by rfl) : PE X (.Call (.Name x p) [a] [] pos) (tErr C f ta) := by
  refine ⟨fun pins s σ H Q I h => ?_⟩
  refine wpAny_Call_Name_kw (ld_glob I hg T.gC ?_ hd)
  refine PySem.W.callWith_K (h₀ := X.base) I.ok.mod.kin T.kC (thn (ha.run pos pins s σ H _ I h) fun us s1 hh => ?_) he hpl
  obtain ⟨vs, H1, I1, r1, v, ev, q1⟩ := hh
  subst ev
  refine ⟨I1.kIn, ?_⟩
  cases r1 with
  | cons rv rn =>
    rename_i v' us'
    cases rn
    show wpAny _ _ (call (.ref C) [v']) _ _ _
    exact wpAny_call (ex_made T I1.mod I1.bk (by have := hr.dp; omega) fun h' tk' e d M => err_done I1 rv M q1)
theorem pe_err0 (T : ExTxt X.prog X.K X.mg x f C fI cda cc) (hr : Room k X.A) (hg : Gl X x := by rfl) (hd : (x == ("__debug__" : PySem.Str)) = false := by decide) : PE X (.Call (.Name x p) [] [] pos) (tErr0 C f) := by
  refine ⟨fun pins s σ H Q I h => ?_⟩
  refine wpAny_Call_Name_kw (ld_glob I hg T.gC ?_ hd)
  refine PySem.W.callWith_K0 I.kIn T.kC ?_
  show wpAny _ _ (call (.ref C) []) _ _ _
  exact wpAny_call (ex_bare T I.mod I.bk (by have := hr.dp; omega) fun h' tk' e d M => err_done (v := .non) (u := .none) I rfl M h)
theorem pe_errK {kw : Keyword} {tk : TA} (T : ExTxt X.prog X.K X.mg x f C fI cda cc) (hr : Room k X.A) (hkw : PK X [kw] tk) (hg : Gl X x := by rfl) (hd : (x == ("__debug__" : PySem.Str)) = false := by decide)
    (hall : (backToKw pos (keywordEach [kw] X.env)).all (·.1.isSome) = true := by rfl) (hks : (backToKw pos (keywordEach [kw] X.env)).filterMap (·.1) = [f] := by rfl)
    (hpl : ((backTo pos (starEach [] X.env)).any (·.1) || (backToKw pos (keywordEach [kw] X.env)).any (·.1.isNone)) = false := by rfl) : PE X (.Call (.Name x p) [] [kw] pos) (tErr C f tk) := by
  refine ⟨fun pins s σ H Q I h => ?_⟩
  refine wpAny_Call_Name_kw (ld_glob I hg T.gC ?_ hd)
  refine PySem.W.callWith_KW0 (h₀ := X.base) I.ok.mod.kin T.kC hall (thn (hkw.run pos pins s σ H _ I h) fun us s1 hh => ?_) hpl
  obtain ⟨vs, H1, I1, r1, v, ev, q1⟩ := hh
  subst ev
  refine ⟨I1.kIn, ?_⟩
  cases r1 with
  | cons rv rn =>
    rename_i v' us'
    cases rn
    rw [hks]
    show wpAny _ _ (call (.ref C) [] [(f, v')]) _ _ _
    exact wpAny_call (ex_kw T I1.mod I1.bk (by have := hr.dp; omega) fun h' tk' e d M => err_done I1 rv M q1)
end
/-- what the written part says of an error's class without an __init__ of its own -/
structure ExB (K : PySem.W.Frag) (mg : PySem.Str → Option Value) (x : PySem.Str) (C : Addr) : Prop where
  gC : mg x = some (.ref C)
  kC : PySem.W.keepIn K (.ref C) = true
  ini : PySem.W.excInitIn K C HandSPX.veTail "ValueError.__new__" = true
  iC : PySem.W.findIn K (.ref C) "__init__" = some (some (.builtin "ValueError.__init__"))
/-- what isinstance asks of an error's class -/
structure ExI (K : PySem.W.Frag) (C : Addr) : Prop where
  cl : (PySem.W.clsIn K C).isSome = true
  ga : PySem.W.findIn K (.ref C) "__getattribute__" = some (some (.builtin "BaseException.__getattribute__"))
  gg : PySem.W.findIn K (.ref C) "__getattr__" = some none
  sBE : PySem.W.subIn K (.ref C) (.type "BaseException") = some true
  ca : PySem.W.findIn K (.ref C) "__class__" = some (some (.builtin "object.__class__"))
  cg : PySem.W.specialIn K (.builtin "object.__class__") "__get__" = some (some (.builtin "getset_descriptor.__get__"))
  ct : PySem.W.takesIn K (.builtin "object.__class__") = some true
  ob : PySem.W.mroIn K C (.type "object") = some true
section
variable {X : Cx} {x f : PySem.Str} {C fI cda cc : Addr} {p pos : Pos} {k : Nat}
theorem pe_errB (T : ExB X.K X.mg x C) (hg : Gl X x := by rfl) (hd : (x == ("__debug__" : PySem.Str)) = false := by decide) : PE X (.Call (.Name x p) [] [] pos) (tErrB C) := by
  refine ⟨fun pins s σ H Q I h => ?_⟩
  refine wpAny_Call_Name_kw (ld_glob I hg T.gC ?_ hd)
  refine PySem.W.callWith_K0 I.kIn T.kC ?_
  show wpAny _ _ (call (.ref C) []) _ _ _
  obtain ⟨nm, N', qn, bs, bm, hdct, sn, sub, ab, col, dd, k0, k1, k2, k3, k5, hC, hT⟩ := PySem.W.excInit_of I.kIn T.ini
  obtain ⟨hp, g, dr, tk, os⟩ := s
  refine PySem.W.call_B PySem.F.excBase_ValueError hT hC (PySem.W.looks_findIn I.kIn T.iC) (Nat.zero_le _) fun h' kk e1 _ => ?_
  exact ⟨.ref (hp.objs.size + 1), _, I.laid (t' := tk) kk (Nat.le_succ _) (eb_ok e1), rfl, h _ (I.hok.fresh (Nat.le_succ _))⟩
/-- isinstance(e, c), e an error -/
def rIsX (K : PySem.W.Frag) : List V → Hp → VK → Prop := fun xs H Q => ∃ (e C : Addr) (c : V) (cv : Value) (b : Bool), xs = [.ref e, c] ∧ ((∃ d fs, H e = some (EH C d e) ∧ H d = some (.xd fs)) ∨ H e = some (EB C e)) ∧ ExI K C ∧ ClsV c cv ∧ PySem.W.kitOne K (.ref C) cv = some b ∧ Q (.bl b) H
theorem call_isX : CallR X (.builtin "isinstance") (rIsX X.K) := by
  intro pins s σ H xs us Q I r h
  obtain ⟨e, C, c, cv, b, rfl, hee, T, hc, hk, q⟩ := h
  obtain ⟨u1, u2, rfl, r1, r2⟩ := vals2 r
  cases (show u1 = Value.ref e from r1)
  have e2 := hc.eq r2
  subst e2
  rcases hee with ⟨d, fs, he, hd⟩ | he
  · obtain ⟨⟨t1, ho⟩, _⟩ := I.hok e _ he
    obtain ⟨mA, ⟨od, es, ep, hod, _⟩, _⟩ := I.hok d _ hd
    have J : PySem.W.InstAt s.heap e { cls := .ref C, dict := some d, data := .fields #[.ref t1, .none, .none, .none, .bool false, .none] } C (some od) := ⟨ho, rfl, rfl, hod⟩
    exact PySem.W.kia_one (PySem.W.kitx_exc T.cl T.ga T.gg T.sBE T.ca T.cg T.ct T.ob) I.kIn J hk (fun z => nomatch z) fun tk => ⟨.bl b, H, I.tok tk, rfl, q⟩
  · obtain ⟨⟨t1, ho⟩, _⟩ := I.hok e _ he
    have J : PySem.W.InstAt s.heap e { cls := .ref C, dict := none, data := .fields #[.ref t1, .none, .none, .none, .bool false, .none] } C none := ⟨ho, rfl, rfl, trivial⟩
    exact PySem.W.kia_one (PySem.W.kitx_exc T.cl T.ga T.gg T.sBE T.ca T.cg T.ct T.ob) I.kIn J hk (fun z => nomatch z) fun tk => ⟨.bl b, H, I.tok tk, rfl, q⟩
/-- e.f, e an error whose field f is -/
def tErrF (K : PySem.W.Frag) (f : PySem.Str) (te : TE) : TE := fun σ H Q => te σ H fun x H1 => ∃ e C d v, x = .ref e ∧ H1 e = some (EH C d e) ∧ H1 d = some (.xd [(f, v)]) ∧ ExI K C ∧ PySem.W.hasDictIn K C = true ∧ PySem.W.findIn K (.ref C) f = some none ∧ Q v H1
theorem pe_errF {e : Expr} {te : TE} (he : PE X e te) (hb : attributeBase e f X.env (eval e X.env) = eval e X.env := by rfl) : PE X (.Attribute e f pos) (tErrF X.K f te) := by
  refine ⟨fun pins s σ H Q I h => ?_⟩
  refine attr_of hb (thn (he.run pins s σ H _ I h) fun u s1 hh => ?_)
  obtain ⟨x, H1, I1, rx, ee, C, d, v, ex, h1, h2, T, hdc, hno, q⟩ := hh
  subst ex
  obtain rfl : u = Value.ref ee := rx
  obtain ⟨⟨t1, ho⟩, _⟩ := I1.hok ee _ h1
  obtain ⟨mA, hns, hr⟩ := I1.hok d _ h2
  obtain ⟨od, hod, hl⟩ := lookIn_ns hns
  obtain ⟨u, hu, ru⟩ := RelO.some_of (v := v) (o := mA f) (by have z := hr f; rw [show List.lookup f [(f, v)] = some v by simp [List.lookup]] at z; exact z)
  have J : PySem.W.InstAt s1.heap ee { cls := .ref C, dict := some d, data := .fields #[.ref t1, .none, .none, .none, .bool false, .none] } C (some od) := ⟨ho, rfl, rfl, hod⟩
  exact HandSPX.exc_get I1.kIn J T.ga T.gg T.sBE (PySem.W.findObj_own hdc hno rfl (by rw [hl, hu])) (handed_of ru) ⟨v, H1, I1.tok _, ru, q⟩
end
end NE

set_option Elab.async false
set_option linter.all false
set_option maxRecDepth 100000
set_option maxHeartbeats 2000000
/-! A def's promise where nothing is being shown (no repr runs around it): for laws that compare texts of repr. -/
namespace NE
open PySem PySem.Spec PyProof.Rows L2
structure FnG (P : Program) (w : World) (K : PySem.W.Frag) (mg : PySem.Str → Option Value) (base : Heap) (CX : CXT) (k : Nat) (f : Addr) (fd : FuncData) (ps : List PySem.Str) (sp : Sp) : Prop where
  len : ∀ vs H Q E, sp vs H Q E → vs.length = ps.length
  run : ∀ (A : Around) (outer : List Env) (s : Shared) (H : Hp) (args : Args) (us : List Value) (vs : List V) (Q : VK) (E : XK), A.guards = some [] → Room k A → Env0 P w K mg base A outer s H → BindsTo s fd args (ps.zip us) → Vals vs us → sp vs H Q E →
    codeAny (model P w) A (.call (.ref f) args) (CR CX outer P w H s Q E) s
theorem FnG.of {P : Program} {w : World} {K : PySem.W.Frag} {mg : PySem.Str → Option Value} {base : Heap} {CX : CXT} {k : Nat} {f : Addr} {fd : FuncData} {ps : List PySem.Str} {sp : Sp} (F : FnOk P w K mg base CX k f fd ps sp) : FnG P w K mg base CX k f fd ps sp :=
  ⟨F.len, fun A outer s H args us vs Q E _ => F.run A outer s H args us vs Q E⟩
section
variable {P : Program} {w : World} {K : PySem.W.Frag} {mg : PySem.Str → Option Value} {base : Heap} {x qual : PySem.Str} {params : Arguments} {body : List Stmt} {scope : Scope} {dvs : List V} {kws : List (PySem.Str × V)} {f : Addr} {fd : FuncData}
/-- the rule of a def, its body read where nothing is being shown -/
theorem okG {CX : CXT} {N ps : List PySem.Str} {k : Nat} {sp : Sp} (F : FunD K x qual params body scope dvs kws f fd) (S : FnScope N ps scope) (len : ∀ vs H Q E, sp vs H Q E → vs.length = ps.length)
    (hbody : ∀ (cdv : Value) (A : Around) (outer : List Env) (s : Shared) (H : Hp) (vs : List V) (Q : VK) (E : XK), (A.deeper (envOfC qual scope s.heap.objs.size f cdv)).guards = some [] → Room k (A.deeper (envOfC qual scope s.heap.objs.size f cdv)) → sp vs H Q E →
      ∃ t, PSs (cxOf CX P w K mg base N qual scope f cdv A outer s H E) body t ∧ t { nx := fun _ H' => Q .non H', rt := Q } (start N vs) H) : FnG P w K mg base CX (k + 1) f fd ps sp := by
  refine ⟨len, fun A outer s H args us vs Q E hg hr e0 hb r hsp => ?_⟩
  obtain ⟨oc, od, dV, kV, doc, pm, an, cdv, ct, osl, rfl, lk, hcd, _, _⟩ := F.ex
  have kx : K.In s.heap := e0.mod.kin.keeps fun b o e => (e0.bs b o e).1
  have lim : s.heap.NoLimit := e0.mod.nolimit.keeps fun b o e => (e0.bs b o e).1
  have par : ∀ y ∈ ps.zip us, scope.names.lookup y.1 = some .local ∨ (scope.names.lookup y.1 = some .cell ∧ ((cellsFrom (s.heap.objs.size + 1) scope.names []).lookup y.1).isSome = true) := fun y hy => by
    rcases S.par y.1 (List.of_mem_zip (show (y.1, y.2) ∈ ps.zip us from hy)).1 with q | q
    · exact .inl q
    · exact .inr ⟨q, PySem.W.cellsFrom_some _ _ _ (.inl q)⟩
  refine codeAny_call_function hr.depth (kx _ _ lk) rfl S.co S.gen rfl (PySem.W.codeRec_of kx hcd) (hb _ _ _ _ (wpAny_newFunctionEnv_cells S.kind par fun env he s1 z => ?_))
  subst he
  refine ⟨lim.keeps z.toInCall.keep, codeAny_func ?_⟩
  have g1 : (A.deeper (envOfC qual scope s.heap.objs.size f cdv)).guards = some [] := by
    show A.guards = some []
    exact hg
  obtain ⟨t, ht, hq⟩ := hbody cdv A outer s H vs Q E g1 (hr.deeper _) hsp
  have I : Inv (cxOf CX P w K mg base N qual scope f cdv A outer s H E) [] (start N vs) H s1 := inv_start S hr.hd e0 (len _ _ _ _ hsp) r z
  refine wpAny_mono (ht.run [] s1 (start N vs) H _ I hq) (fun fl s' hs => ?_) fun e s' hs => hs
  cases fl with
  | ret u =>
    obtain ⟨v, σ', H', J, rv, q⟩ := hs
    exact ⟨v, H', J.os, J.bare, J.base, J.hok, rv, q⟩
  | next =>
    obtain ⟨σ', H', J, q⟩ := hs
    exact ⟨.non, H', J.os, J.bare, J.base, J.hok, rfl, q⟩
  | brk => exact hs.elim fun _ z => z.elim fun _ z => z.2.elim
  | cont => exact hs.elim fun _ z => z.elim fun _ z => z.2.elim
end
/-- a law's call, its def promised so -/
theorem law_callG {P : Program} {w : World} {K : PySem.W.Frag} {mg mb : PySem.Str → Option Value} {CX : CXT} {k : Nat} {fa a : Addr} {fd : FuncData} {x : PySem.Str} {sp : Sp} {s₁ : Shared} {vs : List Value} {ns : List Int}
    (KX : K.In s₁.heap) (hns : s₁.heap.Ns mainGlobals mg) (hb : s₁.heap.Ns builtinsNs mb) (hbb : ∀ x : PySem.Str, x ≠ "__name__" → mb x = bootBuiltins x) (hlim : s₁.heap.NoLimit) (hg : s₁.gens = #[])
    (ha : s₁.heap.get? a = some { cls := .type "list", data := .seq vs.toArray }) (hi : IntsAre vs ns) (hl : ns.length ≤ sizeLine) (hr : Room k callerA)
    (F : ∀ base : Heap, K.In base → base.Ns mainGlobals mg → FnG P w K mg base CX k fa fd [x] sp) (hbind : ∀ (s : Shared) (u : Value), BindsTo s fd ⟨[u], []⟩ [(x, u)])
    (hsp : ∀ H : Hp, Only H → SqL K H a (ns.map V.int) → sp [.ref a] H (fun v _ => v = .bl true) fun _ _ _ => False) (hCX : ∀ H e s', CX [] H s₁ (fun _ _ _ => False) e s' → False) :
    codeAny (model P w) callerA (.call (.ref fa) ⟨[.ref a], []⟩) (fun r s' => r = .ok (.ret (.bool true)) ∧ OldK s₁.heap s'.heap ∧ s'.os = s₁.os ∧ AllBare s'.gens) s₁ := by
  have rv := vals_ints hi
  have lv := hi.length
  have main : ∀ H : Hp, Only H → SqL K H a (ns.map V.int) → HOk P w H s₁.heap → (∀ b, H b ≠ none → b = a) → (H a ≠ none → K.lookup a = none) →
      codeAny (model P w) callerA (.call (.ref fa) ⟨[.ref a], []⟩) (fun r s' => r = .ok (.ret (.bool true)) ∧ OldK s₁.heap s'.heap ∧ s'.os = s₁.os ∧ AllBare s'.gens) s₁ := by
    intro H hO hS hok hA hK
    have out : ∀ {b : Addr} {o : Obj}, s₁.heap.get? b = some o → (b = a → False) → H b = none := fun {b o} _ ne => by
      cases q : H b with
      | none => rfl
      | some u => exact (ne (hA b (by rw [q]; exact fun z => nomatch z))).elim
    have nd : ∀ {b : Addr} {o : Obj} {es : Array DictEntry} {ep : Nat}, s₁.heap.get? b = some o → o.data = .dict es ep → H b = none := fun {b o es ep} e d => out e fun z => by
      rw [z, ha] at e
      cases e
      cases (show Data.seq vs.toArray _ = Data.dict es ep from d)
    have nsK : ∀ {b : Addr} {m : PySem.Str → Option Value}, s₁.heap.Ns b m → (hidT s₁.heap H).Ns b m := fun {b m} ⟨o, es, ep, e, d, r⟩ => ⟨o, es, ep, hidT_get e (nd e d), d, r⟩
    have hKb : K.In (hidT s₁.heap H) := fun b o e => hidT_get (KX b o e) (by
      cases q : H b with
      | none => rfl
      | some u =>
        have z : b = a := hA b (by rw [q]; exact fun z => nomatch z)
        rw [z] at e q
        rw [hK (by rw [q]; exact fun z => nomatch z)] at e
        cases e)
    have hM : Mod K mg (hidT s₁.heap H) := ⟨hKb, nsK hns, ⟨mb, nsK hb, hbb⟩, let ⟨mc, h1, h2⟩ := hlim; ⟨mc, nsK h1, h2⟩⟩
    have e0 : Env0 P w K mg (hidT s₁.heap H) callerA [] s₁ H := ⟨rfl, hM, fun b o e => of_hidT e, Nat.le_of_eq (hidT_size _ _), trivial, fun b hb => (nomatch hb), hok, .of_eq hg⟩
    refine codeAny_mono ((F _ hKb (nsK hns)).run callerA [] s₁ H ⟨[.ref a], []⟩ [.ref a] [.ref a] _ _ rfl hr e0 (hbind s₁ (.ref a)) (.cons rfl .nil) (hsp H hO hS)) fun r s' h => ?_
    cases r with
    | error e => exact (hCX H e s' h).elim
    | ok fl =>
      cases fl with
      | next => exact False.elim h
      | brk => exact False.elim h
      | cont => exact False.elim h
      | ret u =>
        obtain ⟨v, H', os, bare, un, hok', r', q⟩ := h
        have q1 : v = .bl true := q
        subst q1
        obtain rfl : u = Value.bool true := r'
        refine ⟨rfl, OldK.of_keep fun b o e => ?_, os, bare⟩
        cases q : H b with
        | none => exact un.keep b o e q (fun z => nomatch z) (fun z => nomatch z)
        | some u =>
          rcases hO b with z | ⟨ob, xs, z⟩
          · rw [q] at z
            cases z
          · have e1 := (hok b _ z).1
            have e2 := (hok' b _ (un.frzs b ob _ z)).1
            rw [e] at e1
            cases e1
            exact e2
  cases hk : K.lookup a with
  | some o =>
    have e := KX a o hk
    rw [ha] at e
    cases e
    exact main (fun _ => none) (fun _ => .inl rfl) (.inr ⟨_, vs.toArray, _, hk, rfl, rfl, rfl, by rw [List.size_toArray, lv]; exact hl, by simpa using rv⟩) (fun b u z => nomatch z) (fun b z => absurd rfl z) fun z => absurd rfl z
  | none =>
    have at_a : ∀ b : Addr, (upd (fun _ => none) a (.frz { cls := .type "list", data := .seq vs.toArray } (.lst (ns.map V.int))) : Hp) b ≠ none → b = a := fun b z => by
      by_cases hb : b = a
      · exact hb
      · rw [upd_ne hb] at z
        exact absurd rfl z
    refine main (upd (fun _ => none) a (.frz { cls := .type "list", data := .seq vs.toArray } (.lst (ns.map V.int)))) (fun b => ?_) (.inl (.inr ⟨_, upd_same⟩)) (fun b u z => ?_) at_a fun _ => hk
    · by_cases hb : b = a
      · subst hb
        exact .inr ⟨_, _, upd_same⟩
      · exact .inl (upd_ne hb)
    · have hb : b = a := at_a b (by rw [z]; exact fun q => nomatch q)
      subst hb
      rw [upd_same] at z
      cases z
      exact ⟨ha, by rw [List.length_map]; exact hl, vs, _, rv, ha⟩
theorem walk_ofG {l : PySem.W.OpenLaw} {n k : Nat} {q : Program} {loose : List PySem.Str} {XP : (PySem.Str → Option Value) → Heap → Prop} {YP : World → Heap → Prop} {d : DefRec} {CX : CXT} {x : PySem.Str}
    (hn : l.most = some n) (hn2 : n ≤ sizeLine) (hdf : d.params.defaults = []) (hr : Room k callerA)
    (F : ∀ (w : World) (mg : PySem.Str → Option Value) (fa : Addr) (h : Heap), YP w h → h.Ns mainGlobals mg → mg d.name = some (.ref fa) →
      ∃ (K : PySem.W.Frag) (fd : FuncData) (sp : Sp), K.In h ∧ (∀ (s : Shared) (u : Value), BindsTo s fd ⟨[u], []⟩ [(x, u)]) ∧
        (∀ (H : Hp) (a : Addr) (ns : List Int), ns.length ≤ n → Only H → SqL K H a (ns.map V.int) → sp [.ref a] H (fun v _ => v = .bl true) fun _ _ _ => False) ∧
        ∀ base : Heap, K.In base → base.Ns mainGlobals mg → FnG l.prog w K mg base CX k fa fd [x] sp)
    (hCX : ∀ (H : Hp) (s : Shared) (e : Value) (s' : Shared), CX [] H s (fun _ _ _ => False) e s' → False) : PySem.W.WalkO q loose XP YP l.row.toRowW d [] (fun f vs => PySem.call f vs) := by
  refine Att.attach_call hn hdf fun w s₀ s₁ mg mb fa o pm cd doc a vs ns G Y ho hd hcd hmg hobj hints hlen hg => ?_
  obtain ⟨K, fd, sp, KX, hb, hsp, hF⟩ := F w mg fa _ Y G.T.g hmg
  exact law_callG KX G.T.g G.T.b G.T.builtins G.T.nolimit hg hobj hints (Nat.le_trans hlen hn2) hr hF hb (fun H hO hS => hsp H a ns hlen hO hS) fun H e s' => hCX H s₁ e s'
end NE

set_option Elab.async false
set_option linter.all false
set_option maxRecDepth 100000
set_option maxHeartbeats 2000000
/-! A head's facts by one Bool, and the texts of its defs. -/
namespace NE
open PySem PySem.Spec PyProof.Rows L2 He
/-- the written part: what the module's names reach in n steps, and two objects of the system -/
def frK (g : Addr → Option Obj) (n : Nat) : PySem.W.Frag := frG g (asD g n ++ [sysModules, cStatics])
abbrev Tx : Type := Option (PySem.Str × PySem.Str × Arguments × FuncBody × Scope)
/-- a def's text, by its place: a global's name; a class and its method -/
def txAt (K : PySem.W.Frag) (a : Addr) : Tx := match K.lookup a with
  | some ⟨_, _, .func fd, _⟩ => some (fd.name, fd.qualname, fd.params, fd.body, fd.scope)
  | _ => none
/-- a def's other parts: a function of the module, its code, its defaults, its closure -/
def fnB (K : PySem.W.Frag) (a : Addr) (q : PySem.Str) (dfl : List V) (clo : List PySem.Str) : Bool := match K.lookup a with
  | some ⟨.type c, _, .func fd, _⟩ => decide (c = "function") && (PySem.W.codeIn K fd.code q && (dflB K fd.defaults dfl && (decide (fd.globals = mainGlobals) && (decide (fd.builtins = builtinsNs) && (decide (fd.closure.map (·.1) = clo))))))
  | _ => false
/-- a getter's address, of a class's property -/
def pga (K : PySem.W.Frag) (C : Addr) (f : PySem.Str) : Addr := match PySem.W.recIn K (ma K C f) "property" with
  | some (.ref g :: _) => g
  | _ => 0
/-- where a def stands -/
inductive Pl where
  | g (x : PySem.Str) | m (c x : PySem.Str) | p (c x : PySem.Str)
def Pl.ad (K : PySem.W.Frag) : Pl → Addr
  | .g x => ga K x
  | .m c x => ma K (ga K c) x
  | .p c x => pga K (ga K c) x
structure Df where
  pl : Pl
  name : PySem.Str
  qual : PySem.Str
  st : Stmt
  dfl : List V := []
  clo : List PySem.Str := []
def Df.tx (d : Df) : Tx := some (d.name, d.qual, defArgs d.st, .stmts (defBody d.st), defScope d.st)
abbrev AlB : Type := Bool × List Tx
def obB (n : Nat) (fn : List Df) (chk : PySem.W.Frag → Bool) (g : Addr → Option Obj) : AlB := (chk (frK g n) && fn.all fun d => fnB (frK g n) (d.pl.ad (frK g n)) d.qual d.dfl d.clo, fn.map fun d => txAt (frK g n) (d.pl.ad (frK g n)))
def vaB (fn : List Df) : AlB := (true, fn.map Df.tx)
structure SaysB (fn : List Df) (chk : PySem.W.Frag → Bool) (K : PySem.W.Frag) : Prop where
  ok : chk K = true
  fs : ∀ d ∈ fn, fnB K (d.pl.ad K) d.qual d.dfl d.clo = true ∧ txAt K (d.pl.ad K) = d.tx
theorem map_mem {α β : Type} {f g : α → β} : ∀ {l : List α}, l.map f = l.map g → ∀ a ∈ l, f a = g a
  | [], _, _, h => nomatch h
  | b :: l, e, a, h => by
    have e1 : f b :: l.map f = g b :: l.map g := e
    injection e1 with e2 e3
    rcases List.mem_cons.mp h with rfl | h
    · exact e2
    · exact map_mem e3 a h
theorem saysB_of {n : Nat} {fn : List Df} {chk : PySem.W.Frag → Bool} {g : Addr → Option Obj} (e : obB n fn chk g = vaB fn) : SaysB fn chk (frK g n) := by
  have e1 : (chk (frK g n) && fn.all fun d => fnB (frK g n) (d.pl.ad (frK g n)) d.qual d.dfl d.clo) = true := congrArg (fun z : AlB => z.1) e
  have e2 : fn.map (fun d => txAt (frK g n) (d.pl.ad (frK g n))) = fn.map Df.tx := congrArg (fun z : AlB => z.2) e
  obtain ⟨h1, h2⟩ := ba e1
  exact ⟨h1, fun d hd => ⟨List.all_eq_true.mp h2 d hd, map_mem e2 d hd⟩⟩
def hkB (n : Nat) (fn : List Df) (chk : PySem.W.Frag → Bool) : PySem.W.Hook where
  α := AlB
  obs := fun s => obB n fn chk s.heap.get?
  val := fun _ => vaB fn
  says := fun _ h => ∃ K : PySem.W.Frag, K.In h ∧ SaysB fn chk K
  of := fun _ _ e => ⟨_, frG_in, saysB_of e⟩
  keeps := fun _ _ _ ⟨K, hK, c⟩ k => ⟨K, PySem.W.Frag.In.keeps hK k, c⟩
theorem obB_eq {n : Nat} {fn : List Df} {chk : PySem.W.Frag → Bool} {g : Addr → Option Obj} {s : Shared} (h : ∀ a, g a = s.heap.get? a) : obB n fn chk g = (hkB n fn chk).obs s := by
  have e : g = s.heap.get? := funext h
  rw [e] <;> rfl
section
variable {K : PySem.W.Frag} {fn : List Df} {chk : PySem.W.Frag → Bool}
/-- a def of no closure, as the layer wants it -/
theorem SaysB.funD (c : SaysB fn chk K) {d : Df} (h : d ∈ fn) (hc : d.clo = []) : ∃ fd, FunD K d.name d.qual (defArgs d.st) (defBody d.st) (defScope d.st) d.dfl [] (d.pl.ad K) fd := by
  obtain ⟨h1, h2⟩ := c.fs d h
  unfold txAt Df.tx at h2
  unfold fnB at h1
  cases q : K.lookup (d.pl.ad K) with
  | none =>
    rw [q] at h1
    cases h1
  | some o =>
    obtain ⟨oc, od, dt, osl⟩ := o
    rw [q] at h1 h2
    cases dt with
    | func fd =>
      cases oc with
      | type c =>
        obtain ⟨n1, n2, n3, n4, n5, n6, n7, n8, n9, n10, n11, n12, n13, n14, n15⟩ := fd
        simp only [Option.some.injEq, Prod.mk.injEq] at h2
        obtain ⟨e1, e2, e3, e4, e5⟩ := h2
        subst e1 e2 e3 e4 e5
        have h3 : (decide (c = "function") && (PySem.W.codeIn K n13 d.qual && (dflB K n8 d.dfl && (decide (n6 = mainGlobals) && (decide (n15 = builtinsNs) && (decide (n7.map (·.1) = d.clo))))))) = true := h1
        simp only [Bool.and_eq_true, decide_eq_true_eq] at h3
        obtain ⟨f1, f2, f3, f4, f5, f6⟩ := h3
        rw [hc] at f6
        have f7 : n7 = [] := List.map_eq_nil_iff.mp f6
        subst f4 f5 f7
        refine ⟨_, ⟨_, _, n8, n9, n10, n11, n12, n13, n14, osl, rfl, q, f2, dflB_ok f3, .inl rfl⟩, ?_⟩
        show (match K.lookup (d.pl.ad K) with
          | some ⟨_, _, .func _, _⟩ => true
          | some ⟨_, _, .cls _, _⟩ => PySem.W.specialIn K (.ref (d.pl.ad K)) "__call__" == some (some (.builtin "type.__call__"))
          | _ => false) = true
        rw [q]
      | _ => cases h1
    | _ => cases oc <;> cases h1
end
/-! ### the errors' classes -/
def cdaOf (K : PySem.W.Frag) (fI : Addr) : Addr := match K.lookup fI with
  | some ⟨_, _, .func fd, _⟩ => (match fd.code with
    | .ref c => c
    | _ => 0)
  | _ => 0
def ccOf (K : PySem.W.Frag) (fI : Addr) : Addr := match K.lookup fI with
  | some ⟨_, _, .func fd, _⟩ => (match fd.closure with
    | (_, c) :: _ => c
    | _ => 0)
  | _ => 0
def cellB (K : PySem.W.Frag) (cc C : Addr) : Bool := match K.lookup cc with
  | some ⟨_, _, .cell (some (.ref D)), _⟩ => decide (D = C)
  | _ => false
def fileB (K : PySem.W.Frag) (cda : Addr) (file : PySem.Str) : Bool := match K.lookup cda with
  | some ⟨_, _, .fields vs, _⟩ => (match (vs[2]? : Option Value) with
    | some (.str y _) => file == y
    | _ => false)
  | _ => false
def clsB (K : PySem.W.Frag) (C : Addr) : Bool := match PySem.W.clsIn K C with
  | some cd => HandSPX.refsVE cd.mro && cd.hasDict
  | none => false
def eqB (a b : Option Bool) : Bool := decide (a = b)
/-- all that ExI asks -/
def exiB (K : PySem.W.Frag) (C : Addr) : Bool := (PySem.W.clsIn K C).isSome && (eqO (PySem.W.findIn K (.ref C) "__getattribute__") (some (some (.builtin "BaseException.__getattribute__"))) && (eqO (PySem.W.findIn K (.ref C) "__getattr__") (some none) && (eqB (PySem.W.subIn K (.ref C) (.type "BaseException")) (some true) &&
  (eqO (PySem.W.findIn K (.ref C) "__class__") (some (some (.builtin "object.__class__"))) && (eqO (PySem.W.specialIn K (.builtin "object.__class__") "__get__") (some (some (.builtin "getset_descriptor.__get__"))) && (eqB (PySem.W.takesIn K (.builtin "object.__class__")) (some true) && eqB (PySem.W.mroIn K C (.type "object")) (some true)))))))
theorem exiB_ok {K : PySem.W.Frag} {C : Addr} (h : exiB K C = true) : ExI K C := by
  unfold exiB eqB at h
  simp only [Bool.and_eq_true, decide_eq_true_eq] at h
  obtain ⟨h1, h2, h3, h4, h5, h6, h7, h8⟩ := h
  exact ⟨h1, eqO_ok h2, eqO_ok h3, h4, eqO_ok h5, eqO_ok h6, h7, h8⟩
/-- what of ExTxt is told by Bools -/
def exB (file : PySem.Str) (K : PySem.W.Frag) (x f : PySem.Str) : Bool :=
  eqO (PySem.W.nsIn K mainGlobals x) (some (some (.ref (ga K x)))) && (eqO (PySem.W.nsIn K mainGlobals "super") (some none) && (PySem.W.keepIn K (.ref (ga K x)) && (PySem.W.excInitIn K (ga K x) HandSPX.veTail "ValueError.__new__" &&
  (eqO (PySem.W.findIn K (.ref (ga K x)) "__init__") (some (some (.ref (ma K (ga K x) "__init__")))) && (eqO (PySem.W.ks_superIn K (ga K x) (ga K x) "__init__") (some (some (.builtin "ValueError.__init__"))) && (eqB (PySem.W.subIn K (.ref (ga K x)) (.type "ValueError")) (some true) &&
  (eqB (PySem.W.mroIn K (ga K x) (.ref (ga K x))) (some true) && (eqO (PySem.W.nsIn K cStatics "thirdparty.any") (some none) && (eqO (PySem.W.findIn K (.ref (ga K x)) "__setattr__") (some (some (.builtin "object.__setattr__"))) && (eqO (PySem.W.findIn K (.ref (ga K x)) f) (some none) &&
  (clsB K (ga K x) && (fileB K (cdaOf K (ma K (ga K x) "__init__")) file && (cellB K (ccOf K (ma K (ga K x) "__init__")) (ga K x) && exiB K (ga K x))))))))))))))
/-- the text of such an __init__ -/
def ExSt (st : Stmt) (f : PySem.Str) : Prop := ∃ p1 p2 p3 q1 q2 q3 q4 q5 q6 q7 q8 q9 : Pos, defArgs st = iA f p1 p2 p3 ∧ defBody st = iB f q1 q2 q3 q4 q5 q6 q7 q8 q9 ∧ defScope st = iS f ∧ (q3.endLine == q4.line) = true
theorem exB_ok {prog : Program} {file : PySem.Str} {K : PySem.W.Frag} {h : Heap} {mg : PySem.Str → Option Value} {fn : List Df} {chk : PySem.W.Frag → Bool} {x f : PySem.Str} {d : Df} (X : K.In h) (G : h.Ns mainGlobals mg) (b : exB file K x f = true) (c : SaysB fn chk K) (hd : d ∈ fn) (h1 : d.pl = .m x "__init__") (h2 : d.name = "__init__")
    (h3 : d.dfl = [.non]) (h4 : d.clo = [("__class__" : PySem.Str)]) (h5 : ExSt d.st f) (f4 : f = "value" ∨ f = "ring" ∨ f = "most" ∨ f = "conflicts") (hf : (prog.main.file : PySem.Str) = file) (ht : (prog.main.scope.names.lookup ("super" : PySem.Str)).isSome = false) :
    ExTxt prog K mg x f (ga K x) (ma K (ga K x) "__init__") (cdaOf K (ma K (ga K x) "__init__")) (ccOf K (ma K (ga K x) "__init__")) ∧ ExI K (ga K x) ∧ PySem.W.hasDictIn K (ga K x) = true ∧ PySem.W.findIn K (.ref (ga K x)) f = some none := by
  unfold exB eqB at b
  simp only [Bool.and_eq_true, decide_eq_true_eq] at b
  obtain ⟨b1, b2, b3, b4, b5, b6, b7, b8, b9, b10, b11, b12, b13, b14, b15⟩ := b
  have I := exiB_ok b15
  have hcl : ∃ cd, PySem.W.clsIn K (ga K x) = some cd ∧ HandSPX.refsVE cd.mro = true ∧ cd.hasDict = true := by
    unfold clsB at b12
    cases q : PySem.W.clsIn K (ga K x) with
    | none =>
      rw [q] at b12
      cases b12
    | some cd =>
      rw [q] at b12
      obtain ⟨z1, z2⟩ := ba b12
      exact ⟨cd, rfl, z1, z2⟩
  have hdc : PySem.W.hasDictIn K (ga K x) = true := by
    obtain ⟨cd, q, _, z⟩ := hcl
    unfold PySem.W.hasDictIn
    rw [q]
    exact z
  refine ⟨?_, I, hdc, eqO_ok b11⟩
  obtain ⟨g1, g2⟩ := c.fs d hd
  rw [h1] at g1 g2
  have ead : (Pl.m x "__init__").ad K = ma K (ga K x) "__init__" := rfl
  rw [ead] at g1 g2
  obtain ⟨p1, p2, p3, q1, q2, q3, q4, q5, q6, q7, q8, q9, t1, t2, t3, t4⟩ := h5
  unfold txAt Df.tx at g2
  unfold fnB at g1
  unfold cellB ccOf at b14
  unfold fileB cdaOf at b13
  cases q : K.lookup (ma K (ga K x) "__init__") with
  | none =>
    rw [q] at g1
    cases g1
  | some o =>
    obtain ⟨oc, od, dt, osl⟩ := o
    rw [q] at g1 g2 b13 b14
    cases dt with
    | func fd =>
      cases oc with
      | type cn =>
        obtain ⟨n1, n2, n3, n4, n5, n6, n7, n8, n9, n10, n11, n12, n13, n14, n15⟩ := fd
        simp only [Option.some.injEq, Prod.mk.injEq] at g2
        obtain ⟨e1, e2, e3, e4, e5⟩ := g2
        have g3 : (decide (cn = "function") && (PySem.W.codeIn K n13 d.qual && (dflB K n8 d.dfl && (decide (n6 = mainGlobals) && (decide (n15 = builtinsNs) && (decide (n7.map (·.1) = d.clo))))))) = true := g1
        simp only [Bool.and_eq_true, decide_eq_true_eq] at g3
        obtain ⟨f1, f2, f3, f5, f6, f7⟩ := g3
        rw [h4] at f7
        rw [h3] at f3
        rw [h2] at e1
        rw [t1] at e3
        rw [t2] at e4
        rw [t3] at e5
        obtain ⟨y1, c1, rfl, hy⟩ : ∃ (y : PySem.Str) (c1 : Addr), n7 = [(y, c1)] ∧ y = "__class__" := by
          cases n7 with
          | nil => cases f7
          | cons a r =>
            obtain ⟨a1, a2⟩ := a
            have f8 : a1 :: r.map (·.1) = [("__class__" : PySem.Str)] := f7
            injection f8 with f9 f10
            rw [List.map_eq_nil_iff.mp f10]
            exact ⟨a1, a2, rfl, f9⟩
        subst hy
        obtain ⟨cdr, rfl⟩ : ∃ cdr, n13 = Value.ref cdr := by
          cases n13 with
          | ref c => exact ⟨c, rfl⟩
          | _ => cases f2
        have ecc : ccOf K (ma K (ga K x) "__init__") = c1 := by
          unfold ccOf
          rw [q]
        have ecd : cdaOf K (ma K (ga K x) "__init__") = cdr := by
          unfold cdaOf
          rw [q]
        have dd := dflB_ok f3
        rw [ecc, ecd]
        refine { f4 := f4, gC := PySem.W.mg_of X G (eqO_ok b1), gS := PySem.W.mg_none_of X G (eqO_ok b2), kC := b3, ini := b4, iC := eqO_ok b5, sup := eqO_ok b6, sVE := b7, sBE := I.sBE, slf := b8, thr := eqO_ok b9, sa := eqO_ok b10, ga := I.ga, gg := I.gg, no := eqO_ok b11, cls := hcl, fn := ?_, code := ?_, cell := ?_, top := ht }
        · subst e1 e2 e3 e4 e5 f5 f6 f1
          rcases dd with ⟨z, _⟩ | ⟨_, T, o, its, m, rfl, lT, oT, rT⟩
          · cases z
          · cases rT with
            | cons r1 r2 =>
              cases r2
              cases (show _ = Value.none from r1)
              exact ⟨od, d.qual, _, n9, n10, n11, n12, n14, osl, p1, p2, p3, q1, q2, q3, q4, q5, q6, q7, q8, q9, q, f2, t4, T, o, m, rfl, lT, oT⟩
        · have b16 : (match K.lookup cdr with
            | some ⟨_, _, .fields vs, _⟩ => (match (vs[2]? : Option Value) with
              | some (.str y _) => file == y
              | _ => false)
            | _ => false) = true := b13
          cases z : K.lookup cdr with
          | none =>
            rw [z] at b16
            cases b16
          | some oo =>
            obtain ⟨ocl, odd, odt, osl2⟩ := oo
            rw [z] at b16
            cases odt with
            | fields vs =>
              have b17 : (match (vs[2]? : Option Value) with
                | some (.str y _) => file == y
                | _ => false) = true := b16
              cases z2 : vs[2]? with
              | none =>
                rw [z2] at b17
                cases b17
              | some vv =>
                rw [z2] at b17
                cases vv with
                | str y tt => exact ⟨ocl, odd, vs, osl2, y, tt, rfl, z2, by rw [hf]; exact b17⟩
                | _ => cases b17
            | _ => cases b16
        · have b16 : (match K.lookup c1 with
            | some ⟨_, _, .cell (some (.ref D)), _⟩ => decide (D = ga K x)
            | _ => false) = true := b14
          cases z : K.lookup c1 with
          | none =>
            rw [z] at b16
            cases b16
          | some oo =>
            obtain ⟨ocl, odd, odt, osl2⟩ := oo
            rw [z] at b16
            cases odt with
            | cell ov =>
              cases ov with
              | none => cases b16
              | some vv =>
                cases vv with
                | ref D =>
                  have e : D = ga K x := of_decide_eq_true b16
                  rw [e]
                  exact ⟨ocl, odd, osl2, rfl⟩
                | _ => cases b16
            | _ => cases b16
      | _ => cases g1
    | _ => cases oc <;> cases g1
/-- an error's class without an __init__ of its own -/
def ebB (K : PySem.W.Frag) (x : PySem.Str) : Bool := eqO (PySem.W.nsIn K mainGlobals x) (some (some (.ref (ga K x)))) && (PySem.W.keepIn K (.ref (ga K x)) && (PySem.W.excInitIn K (ga K x) HandSPX.veTail "ValueError.__new__" &&
  (eqO (PySem.W.findIn K (.ref (ga K x)) "__init__") (some (some (.builtin "ValueError.__init__"))) && exiB K (ga K x))))
theorem ebB_ok {K : PySem.W.Frag} {h : Heap} {mg : PySem.Str → Option Value} {x : PySem.Str} (X : K.In h) (G : h.Ns mainGlobals mg) (b : ebB K x = true) : ExB K mg x (ga K x) ∧ ExI K (ga K x) := by
  unfold ebB at b
  simp only [Bool.and_eq_true] at b
  obtain ⟨b1, b2, b3, b4, b5⟩ := b
  exact ⟨⟨PySem.W.mg_of X G (eqO_ok b1), b2, b3, eqO_ok b4⟩, exiB_ok b5⟩
end NE

set_option Elab.async false
set_option linter.all false
set_option maxRecDepth 100000
set_option maxHeartbeats 2000000
/-! What a head asks of classes, as Bools. -/
namespace Cv
open PySem PySem.Spec PyProof.Rows L2 NE He
def glB (K : PySem.W.Frag) (x : PySem.Str) : Bool := eqO (PySem.W.nsIn K mainGlobals x) (some (some (.ref (ga K x))))
def frB (K : PySem.W.Frag) (x : PySem.Str) : Bool := eqO (PySem.W.nsIn K mainGlobals x) (some none)
def conB (K : PySem.W.Frag) (x s : PySem.Str) : Bool := match PySem.W.nsIn K mainGlobals x with
  | some (some (.str y _)) => decide (y = s)
  | _ => false
def clsFB (K : PySem.W.Frag) (C : Addr) : Bool := PySem.W.plainGet K C Str.empty && (PySem.W.hasDictIn K C && (PySem.W.plainOver K C && eqO (PySem.W.findIn K (.ref C) "__setattr__") (some (some (.builtin "object.__setattr__")))))
def isiFB (K : PySem.W.Frag) (C : Addr) : Bool := clsFB K C && (eqO (PySem.W.findIn K (.ref C) "__class__") (some (some (.builtin "object.__class__"))) && (eqO (PySem.W.specialIn K (.builtin "object.__class__") "__get__") (some (some (.builtin "getset_descriptor.__get__"))) && (eqB (PySem.W.takesIn K (.builtin "object.__class__")) (some true) && eqB (PySem.W.mroIn K C (.type "object")) (some true))))
def mkFB (K : PySem.W.Frag) (C f : Addr) : Bool := PySem.W.makesIn K C && (eqO (PySem.W.findIn K (.ref C) "__init__") (some (some (.ref f))) && (PySem.W.isFn K (.ref f) && PySem.W.keepIn K (.ref C)))
def meFB (K : PySem.W.Frag) (C : Addr) (m : PySem.Str) (f : Addr) : Bool := eqO (PySem.W.findIn K (.ref C) m) (some (some (.ref f))) && (PySem.W.isFn K (.ref f) && PySem.W.keepIn K (.ref f))
def prFB (K : PySem.W.Frag) (C : Addr) (m : PySem.Str) (p g : Addr) : Bool := eqO (PySem.W.findIn K (.ref C) m) (some (some (.ref p))) && (eqO (PySem.W.specialIn K (.ref p) "__get__") (some (some (.builtin "property.__get__"))) && (eqB (PySem.W.takesIn K (.ref p)) (some true) && match PySem.W.recIn K p "property" with
  | some (.ref h :: _) => decide (h = g)
  | _ => false))
def naFB (K : PySem.W.Frag) (C : Addr) (f : PySem.Str) : Bool := eqO (PySem.W.findIn K (.ref C) f) (some none)
def eqFB (K : PySem.W.Frag) (C f : Addr) : Bool := eqO (PySem.W.findIn K (.ref C) "__eq__") (some (some (.ref f))) && (PySem.W.isFn K (.ref f) && (eqO (PySem.W.findIn K (.ref C) "__ne__") (some (some (.builtin "object.__ne__"))) && eqB (PySem.W.mroIn K C (.type "object")) (some true)))
def ikFB (K : PySem.W.Frag) (C D : Addr) : Bool := eqB (PySem.W.kitOne K (.ref D) (.ref C)) (some false)
end Cv

set_option Elab.async false
set_option linter.all false
set_option maxRecDepth 100000
set_option maxHeartbeats 0
namespace K12
open PySem PySem.Spec PyProof.Rows L2 NE He
def top (i : Nat) : Stmt := PySem.Challenge.pw_neverapart_k12_matching_by_name.main.body.getD i (.Pass ⟨0, 0, 0, 0⟩)
def d_g_wall : Df := { pl := .g "_wall", name := "_wall", qual := "_wall", st := top 0, dfl := [], clo := [] }
def d_m_InvalidFact_init : Df := { pl := .m "InvalidFact" "__init__", name := "__init__", qual := "InvalidFact.__init__", st := inClass (top 3) 0, dfl := [.non], clo := ["__class__"] }
def d_m_InvalidStore_init : Df := { pl := .m "InvalidStore" "__init__", name := "__init__", qual := "InvalidStore.__init__", st := inClass (top 4) 0, dfl := [.non], clo := ["__class__"] }
def d_m_InvalidRule_init : Df := { pl := .m "InvalidRule" "__init__", name := "__init__", qual := "InvalidRule.__init__", st := inClass (top 5) 0, dfl := [.non], clo := ["__class__"] }
def d_m_InvalidBook_init : Df := { pl := .m "InvalidBook" "__init__", name := "__init__", qual := "InvalidBook.__init__", st := inClass (top 6) 0, dfl := [.non], clo := ["__class__"] }
def d_m_InvalidQuestion_init : Df := { pl := .m "InvalidQuestion" "__init__", name := "__init__", qual := "InvalidQuestion.__init__", st := inClass (top 7) 0, dfl := [.non], clo := ["__class__"] }
def d_m_UnknownName_init : Df := { pl := .m "UnknownName" "__init__", name := "__init__", qual := "UnknownName.__init__", st := inClass (top 8) 0, dfl := [.non], clo := ["__class__"] }
def d_g_is_name : Df := { pl := .g "is_name", name := "is_name", qual := "is_name", st := top 12, dfl := [], clo := [] }
def d_g_is_variable : Df := { pl := .g "is_variable", name := "is_variable", qual := "is_variable", st := top 13, dfl := [], clo := [] }
def d_g_is_term : Df := { pl := .g "is_term", name := "is_term", qual := "is_term", st := top 14, dfl := [], clo := [] }
def d_g_is_pattern : Df := { pl := .g "is_pattern", name := "is_pattern", qual := "is_pattern", st := top 15, dfl := [], clo := [] }
def d_g_is_fact : Df := { pl := .g "is_fact", name := "is_fact", qual := "is_fact", st := top 16, dfl := [], clo := [] }
def d_g_is_store : Df := { pl := .g "is_store", name := "is_store", qual := "is_store", st := top 17, dfl := [], clo := [] }
def d_g_are_patterns : Df := { pl := .g "are_patterns", name := "are_patterns", qual := "are_patterns", st := top 18, dfl := [], clo := [] }
def d_g_is_pair : Df := { pl := .g "is_pair", name := "is_pair", qual := "is_pair", st := top 19, dfl := [], clo := [] }
def d_g_are_pairs : Df := { pl := .g "are_pairs", name := "are_pairs", qual := "are_pairs", st := top 20, dfl := [], clo := [] }
def d_g_variables_of : Df := { pl := .g "variables_of", name := "variables_of", qual := "variables_of", st := top 21, dfl := [], clo := [] }
def d_g_stray : Df := { pl := .g "stray", name := "stray", qual := "stray", st := top 22, dfl := [], clo := [] }
def d_g_filled : Df := { pl := .g "filled", name := "filled", qual := "filled", st := top 23, dfl := [], clo := [] }
def d_g_kind_of : Df := { pl := .g "kind_of", name := "kind_of", qual := "kind_of", st := top 24, dfl := [], clo := [] }
def d_m_Rule_init : Df := { pl := .m "Rule" "__init__", name := "__init__", qual := "Rule.__init__", st := inClass (top 25) 0, dfl := [.non, .non], clo := [] }
def d_m_Rule_eq : Df := { pl := .m "Rule" "__eq__", name := "__eq__", qual := "Rule.__eq__", st := inClass (top 25) 1, dfl := [], clo := [] }
def d_p_Rule_label : Df := { pl := .p "Rule" "label", name := "label", qual := "Rule.label", st := inClass (top 25) 2, dfl := [], clo := [] }
def d_p_Rule_head : Df := { pl := .p "Rule" "head", name := "head", qual := "Rule.head", st := inClass (top 25) 3, dfl := [], clo := [] }
def d_p_Rule_told : Df := { pl := .p "Rule" "told", name := "told", qual := "Rule.told", st := inClass (top 25) 4, dfl := [], clo := [] }
def d_p_Rule_pairs : Df := { pl := .p "Rule" "pairs", name := "pairs", qual := "Rule.pairs", st := inClass (top 25) 5, dfl := [], clo := [] }
def d_p_Rule_denied : Df := { pl := .p "Rule" "denied", name := "denied", qual := "Rule.denied", st := inClass (top 25) 6, dfl := [], clo := [] }
def d_m_Book_init : Df := { pl := .m "Book" "__init__", name := "__init__", qual := "Book.__init__", st := inClass (top 26) 0, dfl := [], clo := [] }
def d_m_Book_eq : Df := { pl := .m "Book" "__eq__", name := "__eq__", qual := "Book.__eq__", st := inClass (top 26) 1, dfl := [], clo := [] }
def d_m_Book_len : Df := { pl := .m "Book" "__len__", name := "__len__", qual := "Book.__len__", st := inClass (top 26) 2, dfl := [], clo := [] }
def d_m_Book_add : Df := { pl := .m "Book" "__add__", name := "__add__", qual := "Book.__add__", st := inClass (top 26) 3, dfl := [], clo := [] }
def d_p_Book_plain : Df := { pl := .p "Book" "plain", name := "plain", qual := "Book.plain", st := inClass (top 26) 4, dfl := [], clo := [] }
def d_m_Book_rules : Df := { pl := .m "Book" "rules", name := "rules", qual := "Book.rules", st := inClass (top 26) 5, dfl := [], clo := [] }
def d_m_Book_labels : Df := { pl := .m "Book" "labels", name := "labels", qual := "Book.labels", st := inClass (top 26) 6, dfl := [], clo := [] }
def d_m_Book_rule : Df := { pl := .m "Book" "rule", name := "rule", qual := "Book.rule", st := inClass (top 26) 7, dfl := [], clo := [] }
def d_m_Book_without : Df := { pl := .m "Book" "without", name := "without", qual := "Book.without", st := inClass (top 26) 8, dfl := [], clo := [] }
def d_m_Question_init : Df := { pl := .m "Question" "__init__", name := "__init__", qual := "Question.__init__", st := inClass (top 27) 0, dfl := [.non], clo := [] }
def d_m_Question_eq : Df := { pl := .m "Question" "__eq__", name := "__eq__", qual := "Question.__eq__", st := inClass (top 27) 1, dfl := [], clo := [] }
def d_p_Question_columns : Df := { pl := .p "Question" "columns", name := "columns", qual := "Question.columns", st := inClass (top 27) 2, dfl := [], clo := [] }
def d_p_Question_told : Df := { pl := .p "Question" "told", name := "told", qual := "Question.told", st := inClass (top 27) 3, dfl := [], clo := [] }
def d_p_Question_pairs : Df := { pl := .p "Question" "pairs", name := "pairs", qual := "Question.pairs", st := inClass (top 27) 4, dfl := [], clo := [] }
def d_g_check_fact : Df := { pl := .g "check_fact", name := "check_fact", qual := "check_fact", st := top 28, dfl := [], clo := [] }
def d_g_check_store : Df := { pl := .g "check_store", name := "check_store", qual := "check_store", st := top 29, dfl := [], clo := [] }
def d_g_check_question : Df := { pl := .g "check_question", name := "check_question", qual := "check_question", st := top 30, dfl := [], clo := [] }
def d_g_led_on : Df := { pl := .g "led_on", name := "led_on", qual := "led_on", st := top 32, dfl := [], clo := [] }
def d_g_keeps_apart : Df := { pl := .g "keeps_apart", name := "keeps_apart", qual := "keeps_apart", st := top 33, dfl := [], clo := [] }
def d_g_matches_of : Df := { pl := .g "matches_of", name := "matches_of", qual := "matches_of", st := top 34, dfl := [], clo := [] }
def d_g_matches_in : Df := { pl := .g "matches_in", name := "matches_in", qual := "matches_in", st := top 35, dfl := [], clo := [] }
def d_g_match_names : Df := { pl := .g "match_names", name := "match_names", qual := "match_names", st := top 36, dfl := [], clo := [] }
def d_g_as_facts : Df := { pl := .g "as_facts", name := "as_facts", qual := "as_facts", st := top 37, dfl := [], clo := [] }
def d_g_variables : Df := { pl := .g "variables", name := "variables", qual := "variables", st := top 38, dfl := [], clo := [] }
def d_g_matches : Df := { pl := .g "matches", name := "matches", qual := "matches", st := top 39, dfl := [], clo := [] }
def d_g_count_matches : Df := { pl := .g "count_matches", name := "count_matches", qual := "count_matches", st := top 40, dfl := [], clo := [] }
def d_g_matches_with : Df := { pl := .g "matches_with", name := "matches_with", qual := "matches_with", st := top 41, dfl := [], clo := [] }
def d_g_steps_of : Df := { pl := .g "steps_of", name := "steps_of", qual := "steps_of", st := top 42, dfl := [], clo := [] }
def d_g_partials : Df := { pl := .g "partials", name := "partials", qual := "partials", st := top 43, dfl := [], clo := [] }
def d_g_orders_of : Df := { pl := .g "orders_of", name := "orders_of", qual := "orders_of", st := top 44, dfl := [], clo := [] }
def d_g_best_order : Df := { pl := .g "best_order", name := "best_order", qual := "best_order", st := top 45, dfl := [], clo := [] }
def d_g_law_purse : Df := { pl := .g "_law_purse", name := "_law_purse", qual := "_law_purse", st := top 47, dfl := [], clo := [] }
def d_g_law_mixed : Df := { pl := .g "_law_mixed", name := "_law_mixed", qual := "_law_mixed", st := top 48, dfl := [], clo := [] }
def d_g_law_draw : Df := { pl := .g "_law_draw", name := "_law_draw", qual := "_law_draw", st := top 49, dfl := [], clo := [] }
def d_g_law_purses : Df := { pl := .g "_law_purses", name := "_law_purses", qual := "_law_purses", st := top 50, dfl := [], clo := [] }
def d_g_law_one_of : Df := { pl := .g "_law_one_of", name := "_law_one_of", qual := "_law_one_of", st := top 51, dfl := [], clo := [] }
def d_g_law_parts : Df := { pl := .g "_law_parts", name := "_law_parts", qual := "_law_parts", st := top 52, dfl := [], clo := [] }
def d_g_law_bags : Df := { pl := .g "_law_bags", name := "_law_bags", qual := "_law_bags", st := top 53, dfl := [], clo := [] }
def d_g_law_made_right : Df := { pl := .g "_law_made_right", name := "_law_made_right", qual := "_law_made_right", st := top 54, dfl := [], clo := [] }
def d_g_law : Df := { pl := .g "law", name := "law", qual := "law", st := top 55, dfl := [], clo := [] }
def fn0 : List Df := [d_g_wall, d_m_InvalidFact_init, d_m_InvalidStore_init, d_m_InvalidRule_init, d_m_InvalidBook_init, d_m_InvalidQuestion_init, d_m_UnknownName_init, d_g_is_name, d_g_is_variable, d_g_is_term, d_g_is_pattern, d_g_is_fact, d_g_is_store, d_g_are_patterns, d_g_is_pair, d_g_are_pairs, d_g_variables_of, d_g_stray, d_g_filled, d_g_kind_of, d_m_Rule_init, d_m_Rule_eq, d_p_Rule_label, d_p_Rule_head, d_p_Rule_told, d_p_Rule_pairs, d_p_Rule_denied, d_m_Book_init, d_m_Book_eq, d_m_Book_len]
def fn1 : List Df := [d_m_Book_add, d_p_Book_plain, d_m_Book_rules, d_m_Book_labels, d_m_Book_rule, d_m_Book_without, d_m_Question_init, d_m_Question_eq, d_p_Question_columns, d_p_Question_told, d_p_Question_pairs, d_g_check_fact, d_g_check_store, d_g_check_question, d_g_led_on, d_g_keeps_apart, d_g_matches_of, d_g_matches_in, d_g_match_names, d_g_as_facts, d_g_variables, d_g_matches, d_g_count_matches, d_g_matches_with, d_g_steps_of, d_g_partials, d_g_orders_of, d_g_best_order, d_g_law_purse, d_g_law_mixed]
def fn2 : List Df := [d_g_law_draw, d_g_law_purses, d_g_law_one_of, d_g_law_parts, d_g_law_bags, d_g_law_made_right, d_g_law]
def fn : List Df := fn0 ++ fn1 ++ fn2
def loose0 : List PySem.Str := ["_wall", "NeverError", "InvalidFact", "InvalidStore", "InvalidRule", "InvalidBook", "InvalidQuestion", "UnknownName", "LOWER", "UPPER", "is_name", "is_variable", "is_term", "is_pattern", "is_fact", "is_store", "are_patterns", "is_pair", "are_pairs", "variables_of", "stray", "filled", "kind_of", "Rule", "Book", "Question", "check_fact", "check_store", "check_question", "led_on"]
def loose1 : List PySem.Str := ["keeps_apart", "matches_of", "matches_in", "match_names", "as_facts", "variables", "matches", "count_matches", "matches_with", "steps_of", "partials", "orders_of", "best_order", "_law_purse", "_law_mixed", "_law_draw", "_law_purses", "_law_one_of", "_law_parts", "_law_bags", "_law_made_right"]
def loose : List PySem.Str := loose0 ++ loose1
def exs : List (PySem.Str × PySem.Str) := [("InvalidFact", "value"), ("InvalidStore", "value"), ("InvalidRule", "value"), ("InvalidBook", "value"), ("InvalidQuestion", "value"), ("UnknownName", "value")]
def ebs : List PySem.Str := ["NeverError"]
-- LAW 55

abbrev R : PySem.W.OpenRow := PySem.W.OpenLaw.row PySem.Challenge.rw_neverapart_k12_matching_by_name
abbrev PP : Program := R.prog
end K12

set_option Elab.async false
set_option linter.all false
set_option maxRecDepth 100000
set_option maxHeartbeats 0
namespace K12
open PySem PySem.Spec PyProof.Rows L2 NE He Cv
def gls0 : List PySem.Str := ["Book", "Question", "Rule", "_law_draw", "_law_mixed", "_law_one_of", "are_pairs", "are_patterns", "as_facts", "check_fact", "check_question", "check_store", "filled", "is_fact", "is_name", "is_pair", "is_pattern", "is_store", "is_term", "is_variable", "keeps_apart", "kind_of", "led_on", "match_names", "matches"]
def gls1 : List PySem.Str := ["matches_in", "matches_of", "orders_of", "steps_of", "stray", "variables_of", "_law_bags", "_law_made_right", "_law_parts", "_law_purse", "_law_purses", "best_order", "count_matches", "law", "matches_with", "partials", "variables"]
def gls : List PySem.Str := gls0 ++ gls1
def frs0 : List PySem.Str := ["dict", "isinstance", "len", "list", "range", "set", "sorted", "str", "sum", "tuple", "zip", "max", "min"]
def frs : List PySem.Str := frs0
def cons : List (PySem.Str × PySem.Str) := [("LOWER", "abcdefghijklmnopqrstuvwxyz"), ("UPPER", "ABCDEFGHIJKLMNOPQRSTUVWXYZ")]
def clss : List PySem.Str := ["Rule", "Book", "Question"]
def mes : List (PySem.Str × PySem.Str) := [("Book", "rule"), ("Book", "without")]
def prs : List (PySem.Str × PySem.Str) := [("Question", "pairs"), ("Question", "told"), ("Rule", "denied"), ("Rule", "label"), ("Rule", "pairs"), ("Rule", "told")]
def eqcs : List PySem.Str := ["Book", "Question", "Rule"]
def nas : List (PySem.Str × PySem.Str) := [("Rule", "row"), ("Book", "all"), ("Book", "every"), ("Question", "row")]
def chk (K : PySem.W.Frag) : Bool := gls.all (glB K) && (frs.all (frB K) && (cons.all (fun p => conB K p.1 p.2) && (clss.all (fun c => isiFB K (ga K c) && mkFB K (ga K c) (ma K (ga K c) "__init__")) && (mes.all (fun p => meFB K (ga K p.1) p.2 (ma K (ga K p.1) p.2)) && (prs.all (fun p => prFB K (ga K p.1) p.2 (ma K (ga K p.1) p.2) (pga K (ga K p.1) p.2)) && (nas.all (fun p => naFB K (ga K p.1) p.2) && eqcs.all (fun c => eqFB K (ga K c) (ma K (ga K c) "__eq__"))))))))
def fnn0 : List Df := [d_g_is_name, d_g_is_variable, d_g_is_term, d_g_is_pattern, d_g_is_fact, d_g_is_store, d_g_is_pair, d_g_are_patterns, d_g_are_pairs, d_g_variables_of, d_g_stray, d_g_kind_of, d_g_filled, d_m_Rule_init, d_m_Rule_eq, d_p_Rule_label, d_p_Rule_told, d_p_Rule_pairs, d_p_Rule_denied, d_m_Question_init, d_m_Question_eq, d_p_Question_told, d_p_Question_pairs, d_m_Book_init, d_m_Book_eq]
def fnn1 : List Df := [d_m_Book_rule, d_m_Book_without, d_g_check_fact, d_g_check_question, d_g_check_store, d_g_led_on, d_g_keeps_apart, d_g_matches_of, d_g_matches_in, d_g_match_names, d_g_as_facts, d_g_variables, d_g_matches, d_g_count_matches, d_g_matches_with, d_g_steps_of, d_g_partials, d_g_orders_of, d_g_best_order, d_g_law_mixed, d_g_law_draw, d_g_law_one_of, d_g_law_parts, d_g_law_bags, d_g_law_made_right]
def fnn2 : List Df := [d_g_law_purse, d_g_law_purses, d_g_law]
def fnn : List Df := fnn0 ++ fnn1 ++ fnn2
abbrev hk : PySem.W.Hook := hkB 6 fnn chk
def ob (s : PySem.W.SharedT) : AlB := obB 6 fnn chk (HandSHeadRun.getT s)
theorem ob_eq (s : PySem.W.SharedT) : ob s = hk.obs s.abs := obB_eq (HandSHeadRun.getT_eq s)
theorem run (w : World) : HandSHeadRun.RunEq R (PySem.W.view R.prog [55]) hk ob 20000 loose w := by
  intro os
  kernel_rfl
end K12

set_option Elab.async false
set_option linter.all false
set_option maxRecDepth 100000
set_option maxHeartbeats 2000000
/-! One rule an operator, whatever the operands are: the reading says which. -/
namespace U
open PySem PySem.Spec PyProof.Rows L2
def rAdd (K : PySem.W.Frag) : R2 := fun x y H Q => rI0 (fun i j => .int (i + j)) x y H Q ∨ (rCat x y H Q ∨ (rCatA K x y H Q ∨ (∃ i j, x = .str i ∧ y = .str j ∧ i.length + j.length ≤ sizeLine ∧ Q (.str (i ++ j)) H)))
def rMul (K : PySem.W.Frag) : R2 := fun x y H Q => rI CMulW (fun i j => .int (i * j)) x y H Q ∨ (rRep x y H Q ∨ ∃ (a : PySem.Str) (n : Int), x = .str a ∧ y = .int n ∧ MulOk a n ∧ Q (.str (Txt.mul a n)) H)
def rEqU (K : PySem.W.Frag) : R2 := fun x y H Q => rEq x y H Q ∨ rEqD K x y H Q
def rNeU (K : PySem.W.Frag) : R2 := fun x y H Q => rNe x y H Q ∨ rNeD K x y H Q
def rInU (K : PySem.W.Frag) : R2 := fun x y H Q => (∃ (c : Nat) (z : PySem.Str), x = .str ⟨#[c]⟩ ∧ y = .str z ∧ Q (.bl (decide (c ∈ z.cps.toList))) H) ∨ (rInD K x y H Q ∨ rIn K false x y H Q)
def rNiU (K : PySem.W.Frag) : R2 := fun x y H Q => (∃ (c : Nat) (z : PySem.Str), x = .str ⟨#[c]⟩ ∧ y = .str z ∧ Q (.bl (!decide (c ∈ z.cps.toList))) H) ∨ (rNotInD K x y H Q ∨ rIn K true x y H Q)
def rIxU (K : PySem.W.Frag) : R2 := fun x y H Q => rIxL K x y H Q ∨ (rIxT K x y H Q ∨ rIxS x y H Q)
def rSlU (K : PySem.W.Frag) : V → Option Int → Option Int → Hp → VK → Prop := fun x lo hi H Q => rSlL K x lo hi H Q ∨ rSlA K x lo hi H Q
section
variable {X : Cx}
theorem add : OpR X (binaryOp .Add) (rAdd X.K) := .or op_add (.or op_cat (.or op_catA op_add_str))
theorem sub : OpR X (binaryOp .Sub) (rI0 fun i j => .int (i - j)) := op_sub
theorem op_mulS : OpR X (binaryOp .Mult) (fun x y H Q => ∃ (a : PySem.Str) (n : Int), x = .str a ∧ y = .int n ∧ MulOk a n ∧ Q (.str (Txt.mul a n)) H) := by
  intro pins s σ H x y v u Q I rx ry h
  obtain ⟨a, n, rfl, rfl, ok, q⟩ := h
  obtain ⟨t, rfl⟩ := rx
  obtain ⟨t', rfl⟩ := ry
  exact SB.mul ok fun t2 k => ⟨.str _, H, I.tok k, ⟨t2, rfl⟩, q⟩
theorem mul : OpR X (binaryOp .Mult) (rMul X.K) := .or op_mulW (.or op_rep op_mulS)
theorem fdiv : OpR X (binaryOp .FloorDiv) (rI CDivW fun i j => .int (i / j)) := op_fdivW
theorem mod : OpR X (binaryOp .Mod) (rI (fun _ j => 0 < j) fun i j => .int (i % j)) := op_mod
theorem pow : OpR X (binaryOp .Pow) (rI CPow fun i j => .int (i ^ j.toNat)) := op_pow
theorem eq (hu : X.A.units + 64 < cLine) : OpR X (compareOp .Eq) (rEqU X.K) := .or op_eq (op_eqD hu)
theorem ne (hu : X.A.units + 64 < cLine) : OpR X (compareOp .NotEq) (rNeU X.K) := .or op_ne (op_neD hu)
theorem isIn (hu : X.A.units + 65 < cLine) : OpR X (compareOp .In) (rInU X.K) := .or op_in_sign (.or (op_inD hu) op_in_seq)
theorem notIn (hu : X.A.units + 65 < cLine) : OpR X (compareOp .NotIn) (rNiU X.K) := .or op_notIn_sign (.or (op_notInD hu) op_notIn_seq)
theorem ix : IxR X (rIxU X.K) := .or ix_list (.or ix_tup ix_str)
theorem sl : SlR X (rSlU X.K) := .or sl_list sl_tupA
/-! calls of built-ins -/
def rIsU (K : PySem.W.Frag) : List V → Hp → VK → Prop := fun xs H Q => NE.rIsX K xs H Q ∨ rIsi K xs H Q
theorem isi : CallR X (.builtin "isinstance") (rIsU X.K) := .or NE.call_isX call_isi
def rLenU (K : PySem.W.Frag) : List V → Hp → VK → Prop := fun xs H Q => (∃ p ys, xs = [.ref p] ∧ (SqL K H p ys ∨ SqT K H p ys) ∧ Q (.int ys.length) H) ∨ ((∃ z, xs = [.str z] ∧ z.length ≤ sizeLine ∧ Q (.int z.length) H) ∨ (∃ a kvs, xs = [V.ref a] ∧ H a = some (.dK kvs) ∧ Q (.int kvs.length) H))
theorem c_len : CallR X (.builtin "len") (rLenU X.K) := .or call_len_seq (.or call_len_str call_lenD)
theorem c_max (hc : X.calm = true := by rfl) : CallR X (.builtin "max") (fun xs H Q => ∃ i j, xs = [.int i, .int j] ∧ Q (.int (if j > i then j else i)) H) := call_max2 hc
theorem c_sum (hc : X.calm = true := by rfl) : CallR X (.builtin "sum") (rSum X.K) := cr_sum hc
theorem c_int : CallR X (.type "int") (fun xs H Q => (∃ i, xs = [.int i] ∧ Q (.int i) H) ∨ ∃ k, xs = [.bl k] ∧ Q (.int (if k then 1 else 0)) H) := call_int1
theorem glob {x : PySem.Str} {C : Addr} {pos : Pos} (hm : X.mg x = some (.ref C)) (hg : Gl X x := by rfl) (hd : (x == ("__debug__" : PySem.Str)) = false := by decide) : PE X (.Name x pos) (tC (.ref C)) := pe_glob hg hm rfl hd
theorem bty {x : PySem.Str} {n : String} {pos : Pos} (hm : X.mg x = none) (hv : bootBuiltins x = some (.type n)) (hg : Gl X x := by rfl) (hn : x ≠ "__name__" := by decide) (hd : (x == ("__debug__" : PySem.Str)) = false := by decide) : PE X (.Name x pos) (tC (.ty n)) := pe_bltn hg hm hv rfl hn hd
/-- for over a list or a tuple -/
def iSeq (K : PySem.W.Frag) (tl : TE) : TI := fun σ H R => iList K tl σ H R ∨ iTup K tl σ H R
theorem it {tg l : Expr} {tl : TE} (hl : PE X l tl) : PI X tg l (iSeq X.K tl) := ⟨fun pins s σ H R I h => by
  rcases h with h | h
  · exact (pi_list hl).run pins s σ H R I h
  · exact (pi_tup hl).run pins s σ H R I h⟩
end
theorem bo_isinstance : bootBuiltins "isinstance" = some (.builtin "isinstance") := by decide +kernel
theorem bo_len : bootBuiltins "len" = some (.builtin "len") := by decide +kernel
theorem bo_max : bootBuiltins "max" = some (.builtin "max") := by decide +kernel
theorem bo_min : bootBuiltins "min" = some (.builtin "min") := by decide +kernel
theorem bo_sum : bootBuiltins "sum" = some (.builtin "sum") := by decide +kernel
theorem bo_repr : bootBuiltins "repr" = some (.builtin "repr") := by decide +kernel
theorem bo_sorted : bootBuiltins "sorted" = some (.builtin "sorted") := by decide +kernel
theorem bo_int : bootBuiltins "int" = some (.type "int") := by decide +kernel
theorem bo_list : bootBuiltins "list" = some (.type "list") := by decide +kernel
theorem bo_tuple : bootBuiltins "tuple" = some (.type "tuple") := by decide +kernel
theorem bo_dict : bootBuiltins "dict" = some (.type "dict") := by decide +kernel
theorem bo_set : bootBuiltins "set" = some (.type "set") := by decide +kernel
theorem bo_str : bootBuiltins "str" = some (.type "str") := by decide +kernel
theorem bo_ValueError : bootBuiltins "ValueError" = some (.type "ValueError") := by decide +kernel
theorem bo_bool : bootBuiltins "bool" = some (.type "bool") := by decide +kernel
/-! data with dicts, as repr shows them -/
mutual
inductive Dq (H : Hp) : V → PyData → Prop
  | non : Dq H .non .none
  | bl (b : Bool) : Dq H (.bl b) (.bool b)
  | int (i : Int) : Dq H (.int i) (.int i)
  | str (x : PySem.Str) : Dq H (.str x) (.str x)
  | lst {a : Addr} {xs : List V} {ds : List PyData} : H a = some (.lst xs) → DqAll H xs ds → Dq H (.ref a) (.list ds)
  | tup {a : Addr} {xs : List V} {ds : List PyData} : H a = some (.tup xs) → DqAll H xs ds → Dq H (.ref a) (.tuple ds)
  | d0 {a : Addr} : H a = some (.dK []) → Dq H (.ref a) (.dict [])
  | d1 {a : Addr} {x : PySem.Str} {v : V} {d : PyData} : H a = some (.dK [(.inr x, v)]) → Dq H v d → Dq H (.ref a) (.dict [(.str x, d)])
inductive DqAll (H : Hp) : List V → List PyData → Prop
  | nil : DqAll H [] []
  | cons {v : V} {vs : List V} {d : PyData} {ds : List PyData} : Dq H v d → DqAll H vs ds → DqAll H (v :: vs) (d :: ds)
end
/-- the table of modules is a dict, that stands in the written part -/
def SmK (K : PySem.W.Frag) : Prop := ∃ o, K.lookup sysModules = some o ∧ o.cls = .type "dict"
theorem sm_ne {K : PySem.W.Frag} {h : Heap} {a : Addr} {o : Obj} {c : String} (X : K.In h) (sm : SmK K) (ho : h.get? a = some o) (hc : o.cls = .type c) (hn : c ≠ "dict") : sysModules ≠ a := fun e => by
  obtain ⟨o', l, c'⟩ := sm
  have z := X _ _ l
  rw [e, ho] at z
  cases z
  rw [hc] at c'
  injection c' with c2
  exact hn c2
mutual
theorem Dq.reads {P : Program} {w : World} {K : PySem.W.Frag} {H : Hp} {h : Heap} (O : HOk P w H h) (X : K.In h) (sm : SmK K) : ∀ (d : PyData) (v : V) (u : Value), Dq H v d → RelV v u → ∃ as, Reads h u d as ∧ sysModules ∉ as
  | .none, _, _, h, r => by
    cases h
    cases r
    exact ⟨_, Reads.none, fun z => nomatch z⟩
  | .bool b, _, _, h, r => by
    cases h
    cases r
    exact ⟨_, Reads.bool b, fun z => nomatch z⟩
  | .int i, _, _, h, r => by
    cases h
    obtain ⟨t, rfl⟩ := r
    exact ⟨_, Reads.int i t, fun z => nomatch z⟩
  | .str x, _, _, h, r => by
    cases h
    obtain ⟨t, rfl⟩ := r
    exact ⟨_, Reads.str x t, fun z => nomatch z⟩
  | .list ds, _, _, h, r => by
    cases h with
    | lst hs ha =>
      cases r
      obtain ⟨_, its, n, rv, ho⟩ := O _ _ hs
      obtain ⟨as, hr, hn⟩ := Dq.readsAll O X sm ds _ its ha rv
      refine ⟨_, Reads.list ho rfl rfl (by simpa using hr), fun z => ?_⟩
      rcases List.mem_cons.mp z with e | z
      · exact sm_ne (c := "list") X sm ho rfl (by decide) e
      · exact hn z
  | .tuple ds, _, _, h, r => by
    cases h with
    | tup hs ha =>
      cases r
      obtain ⟨_, its, rv, o, ho, hc, n, hd⟩ := O _ _ hs
      obtain ⟨as, hr, hn⟩ := Dq.readsAll O X sm ds _ its ha rv
      exact ⟨_, Reads.tuple ho hc hd (by simpa using hr), hn⟩
  | .dict [], _, _, h, r => by
    cases h with
    | d0 hs =>
      cases r
      obtain ⟨_, hn, vs, rv, o, es, ep, ho, hx, hd, _, hp, _⟩ := O _ _ hs
      cases rv
      have e0 : es.toList = [] := by
        generalize es.toList = l at hp
        cases hp
        rfl
      refine ⟨_, Reads.dict (kvs := []) (as := []) (bs := []) ho hx.1 hd (by rw [e0]; exact .nil) (by rw [e0]; exact .nil), fun z => ?_⟩
      rcases List.mem_cons.mp z with e | z
      · rw [← e] at hn
        cases hn
      · cases z
  | .dict [(.str x, d)], _, _, h, r => by
    cases h with
    | d1 hs hv =>
      cases r
      obtain ⟨_, hn, vs, rv, o, es, ep, ho, hx, hd, _, hp, _⟩ := O _ _ hs
      cases rv with
      | @cons _ kv _ _ r1 r2 =>
        cases r2
        obtain ⟨k0, u0⟩ := kv
        obtain ⟨r3, r4⟩ := r1
        obtain ⟨as, hr, hm⟩ := Dq.reads O X sm d _ u0 hv r4
        obtain ⟨e, e0, i1, i2⟩ : ∃ e : DictEntry, es.toList = [e] ∧ (mixKind P w).is k0 e.key = true ∧ e.val = u0 := by
          generalize es.toList = l at hp
          cases hp with
          | cons i1 i2 i3 =>
            cases i3
            exact ⟨_, rfl, i1, i2⟩
        cases (show (Sum.inr x : Key) = k0 from r3)
        obtain ⟨t, ek⟩ : ∃ t, e.key = Value.str x t := by
          rcases keyIs_shape (k := Sum.inr x) (v := e.key) (show keyIs (Sum.inr x) e.key = true from i1) with ⟨i, t, z, _⟩ | ⟨y, t, z, ez⟩
          · cases z
          · cases z
            exact ⟨t, ez⟩
        refine ⟨_, Reads.dict (kvs := [(.str x, d)]) (as := [] ++ []) (bs := as ++ []) ho hx.1 hd (by rw [e0]; exact .cons (by show Reads h e.key _ _; rw [ek]; exact .str x t) .nil) (by rw [e0]; exact .cons (by show Reads h e.val _ _; rw [i2]; exact hr) .nil), fun z => ?_⟩
        rcases List.mem_cons.mp z with e | z
        · rw [← e] at hn
          cases hn
        · have z2 : sysModules ∈ as ++ [] := z
          rw [List.append_nil] at z2
          exact hm z2
  | .dict ((.none, _) :: _), _, _, h, _ => by cases h
  | .dict ((.bool _, _) :: _), _, _, h, _ => by cases h
  | .dict ((.int _, _) :: _), _, _, h, _ => by cases h
  | .dict ((.list _, _) :: _), _, _, h, _ => by cases h
  | .dict ((.tuple _, _) :: _), _, _, h, _ => by cases h
  | .dict ((.dict _, _) :: _), _, _, h, _ => by cases h
  | .dict (_ :: _ :: _), _, _, h, _ => by cases h
theorem Dq.readsAll {P : Program} {w : World} {K : PySem.W.Frag} {H : Hp} {h : Heap} (O : HOk P w H h) (X : K.In h) (sm : SmK K) : ∀ (ds : List PyData) (vs : List V) (us : List Value), DqAll H vs ds → Vals vs us → ∃ as, ReadsAll h us ds as ∧ sysModules ∉ as
  | [], _, _, h, r => by
    cases h
    cases r
    exact ⟨_, ReadsAll.nil, fun z => nomatch z⟩
  | d :: ds, _, _, h, r => by
    cases h with
    | cons h1 h2 =>
      cases r with
      | cons r1 r2 =>
        obtain ⟨as, q1, n1⟩ := Dq.reads O X sm d _ _ h1 r1
        obtain ⟨bs, q2, n2⟩ := Dq.readsAll O X sm ds _ _ h2 r2
        exact ⟨_, ReadsAll.cons q1 q2, fun z => (List.mem_append.mp z).elim n1 n2⟩
end
def rRepr : List V → Hp → VK → Prop := fun xs H Q => ∃ (p : Addr) (d : PyData), xs = [.ref p] ∧ Dq H (.ref p) d ∧ d.showable = true ∧ d.depth ≤ 20 ∧ d.shown.length ≤ sizeLine ∧ Q (.str d.shown) H
theorem c_repr {X : Cx} (sm : SmK X.K) (hg : X.A.guards = some []) (hu : X.A.units + 64 < cLine) : CallR X (.builtin "repr") rRepr := by
  intro pins s σ H xs us Q I r h
  obtain ⟨p, d, rfl, hd, h1, h2, h3, q⟩ := h
  rw [Vals.ref1 r]
  obtain ⟨as, hr, hn⟩ := Dq.reads I.hok I.kIn sm d _ _ hd (show RelV (.ref p) (Value.ref p) from rfl)
  exact repr_of_reads' hr h1 (fun _ => hn) hg (by omega) (fun _ _ z => z) (fun h' u tk hk => ⟨.str _, H, I.kept hk, ⟨u, rfl⟩, q⟩) h3
end U
/-! the same inside a comprehension: the written part is named, for the reading is one for all blocks -/
namespace UK
open PySem PySem.Spec PyProof.Rows L2
variable {X : Cx} (K : PySem.W.Frag)
theorem add (h : X.K = K := by rfl) : OpR X (binaryOp .Add) (U.rAdd K) := h ▸ U.add
theorem mul (h : X.K = K := by rfl) : OpR X (binaryOp .Mult) (U.rMul K) := h ▸ U.mul
theorem eq (hu : X.A.units + 64 < cLine) (h : X.K = K := by rfl) : OpR X (compareOp .Eq) (U.rEqU K) := h ▸ U.eq hu
theorem ne (hu : X.A.units + 64 < cLine) (h : X.K = K := by rfl) : OpR X (compareOp .NotEq) (U.rNeU K) := h ▸ U.ne hu
theorem isIn (hu : X.A.units + 65 < cLine) (h : X.K = K := by rfl) : OpR X (compareOp .In) (U.rInU K) := h ▸ U.isIn hu
theorem notIn (hu : X.A.units + 65 < cLine) (h : X.K = K := by rfl) : OpR X (compareOp .NotIn) (U.rNiU K) := h ▸ U.notIn hu
theorem ix (h : X.K = K := by rfl) : IxR X (U.rIxU K) := h ▸ U.ix
theorem sl (h : X.K = K := by rfl) : SlR X (U.rSlU K) := h ▸ U.sl
theorem isi (h : X.K = K := by rfl) : CallR X (.builtin "isinstance") (U.rIsU K) := h ▸ U.isi
theorem c_len (h : X.K = K := by rfl) : CallR X (.builtin "len") (U.rLenU K) := h ▸ U.c_len
theorem c_sum (h : X.K = K := by rfl) (hc : X.calm = true := by rfl) : CallR X (.builtin "sum") (rSum K) := h ▸ U.c_sum hc
theorem it {tg l : Expr} {tl : TE} (hl : PE X l tl) (h : X.K = K := by rfl) : PI X tg l (U.iSeq K tl) := h ▸ U.it hl
theorem errF {f : PySem.Str} {pos : Pos} {e : Expr} {te : TE} (he : PE X e te) (h : X.K = K := by rfl) (hb : attributeBase e f X.env (eval e X.env) = eval e X.env := by rfl) : PE X (.Attribute e f pos) (NE.tErrF K f te) := h ▸ NE.pe_errF he hb
end UK

set_option Elab.async false
set_option linter.all false
set_option maxRecDepth 100000
set_option maxHeartbeats 2000000
/-! Readings at the level of data: what a reading does is told by a plain function of the slots' data. -/
namespace Fr
open PySem PySem.Spec PyProof.Rows L2 Evl
inductive D where
  | non | bl (b : Bool) | int (i : Int) | str (x : PySem.Str)
  | lst (xs : List D) | tup (xs : List D)
  | dk (ks : List Key) (vs : List D)
  | dt (ks : List (List Key)) (vs : List D)
  | obj (c : PySem.Str) (ns : List PySem.Str) (vs : List D)
/-- a key's text is one; keys and values are as many -/
def kOk : Key → Bool
  | .inl _ => true
  | .inr x => PyData.strOk x
def KL (ks : List Key) (us : List V) : Prop := ks.length = us.length ∧ ks.all kOk = true
def KT2 (ks : List (List Key)) (us : List V) : Prop := ks.length = us.length ∧ (ks.all fun l => l.all kOk) = true
mutual
inductive Dx (cl : PySem.Str → Addr) (F : Hp) : V → D → Prop
  | non : Dx cl F .non .non
  | bl (b : Bool) : Dx cl F (.bl b) (.bl b)
  | int (i : Int) : Dx cl F (.int i) (.int i)
  | str (x : PySem.Str) (h : PyData.strOk x = true) : Dx cl F (.str x) (.str x)
  | lst {a : Addr} {xs : List V} {ds : List D} : F a = some (.lst xs) → DxAll cl F xs ds → Dx cl F (.ref a) (.lst ds)
  | tup {a : Addr} {xs : List V} {ds : List D} : F a = some (.tup xs) → DxAll cl F xs ds → Dx cl F (.ref a) (.tup ds)
  | dk {a : Addr} {o : Obj} {ks : List Key} {us : List V} {ds : List D} : F a = some (.frz o (.dK (ks.zip us))) → KL ks us → DxAll cl F us ds → Dx cl F (.ref a) (.dk ks ds)
  | dt {a : Addr} {o : Obj} {ks : List (List Key)} {us : List V} {ds : List D} : F a = some (.frz o (.dT (ks.zip us))) → KT2 ks us → DxAll cl F us ds → Dx cl F (.ref a) (.dt ks ds)
  | obj {a dx : Addr} {c : PySem.Str} {ns : List PySem.Str} {us : List V} {ds : List D} : F a = some (.ins (cl c) dx (ns.zip us)) → ns.length = us.length → DxAll cl F us ds → Dx cl F (.ref a) (.obj c ns ds)
inductive DxAll (cl : PySem.Str → Addr) (F : Hp) : List V → List D → Prop
  | nil : DxAll cl F [] []
  | cons {v : V} {vs : List V} {d : D} {ds : List D} : Dx cl F v d → DxAll cl F vs ds → DxAll cl F (v :: vs) (d :: ds)
end
section
variable {cl : PySem.Str → Addr} {F F' : Hp}
mutual
theorem Dx.mono (e : Ex F F') : ∀ {v : V} {d : D}, Dx cl F v d → Dx cl F' v d
  | _, _, .non => .non
  | _, _, .bl b => .bl b
  | _, _, .int i => .int i
  | _, _, .str x h => .str x h
  | _, _, .lst h a => .lst (e _ _ h) (DxAll.mono e a)
  | _, _, .tup h a => .tup (e _ _ h) (DxAll.mono e a)
  | _, _, .dk h l a => .dk (e _ _ h) l (DxAll.mono e a)
  | _, _, .dt h l a => .dt (e _ _ h) l (DxAll.mono e a)
  | _, _, .obj h l a => .obj (e _ _ h) l (DxAll.mono e a)
theorem DxAll.mono (e : Ex F F') : ∀ {vs : List V} {ds : List D}, DxAll cl F vs ds → DxAll cl F' vs ds
  | _, _, .nil => .nil
  | _, _, .cons h a => .cons (Dx.mono e h) (DxAll.mono e a)
end
theorem DxAll.length : ∀ {vs : List V} {ds : List D}, DxAll cl F vs ds → vs.length = ds.length
  | _, _, .nil => rfl
  | _, _, .cons _ a => by rw [List.length_cons, List.length_cons, DxAll.length a]
theorem DxAll.get : ∀ {vs : List V} {ds : List D} {i : Nat} {d : D}, DxAll cl F vs ds → ds[i]? = some d → ∃ v, vs[i]? = some v ∧ Dx cl F v d
  | _, _, i, d, .nil, e => by simp at e
  | _, _, 0, d, .cons h a, e => by
    simp at e
    subst e
    exact ⟨_, rfl, h⟩
  | _, _, i + 1, d, .cons h a, e => by
    obtain ⟨v, e1, e2⟩ := DxAll.get (i := i) (d := d) a (by simpa using e)
    exact ⟨v, by simpa using e1, e2⟩
theorem DxAll.getV : ∀ {vs : List V} {ds : List D} {i : Nat} {v : V}, DxAll cl F vs ds → vs[i]? = some v → ∃ d, ds[i]? = some d ∧ Dx cl F v d
  | _, _, i, d, .nil, e => by simp at e
  | _, _, 0, d, .cons h a, e => by
    simp at e
    subst e
    exact ⟨_, rfl, h⟩
  | _, _, i + 1, d, .cons h a, e => by
    obtain ⟨v, e1, e2⟩ := DxAll.getV (i := i) (v := d) a (by simpa using e)
    exact ⟨v, by simpa using e1, e2⟩
theorem DxAll.app : ∀ {vs us : List V} {ds es : List D}, DxAll cl F vs ds → DxAll cl F us es → DxAll cl F (vs ++ us) (ds ++ es)
  | _, _, _, _, .nil, h => h
  | _, _, _, _, .cons h a, h2 => .cons h (DxAll.app a h2)
theorem DxAll.take : ∀ {vs : List V} {ds : List D} (n : Nat), DxAll cl F vs ds → DxAll cl F (vs.take n) (ds.take n)
  | _, _, 0, _ => .nil
  | _, _, _ + 1, .nil => .nil
  | _, _, n + 1, .cons h a => .cons h (DxAll.take n a)
theorem DxAll.drop : ∀ {vs : List V} {ds : List D} (n : Nat), DxAll cl F vs ds → DxAll cl F (vs.drop n) (ds.drop n)
  | _, _, 0, h => h
  | _, _, _ + 1, .nil => .nil
  | _, _, n + 1, .cons h a => DxAll.drop n a
end
/-! ### heaps: F what is never changed, H all; O what may be changed -/
/-- no tuple (a tuple never changes, whoever knows it) -/
def NT (o : Option HO) : Prop := ∀ xs, o ≠ some (.tup xs)
def Step (O : Addr → Prop) (F H F' H' : Hp) : Prop := Ex F F' ∧ Ex F' H' ∧ ∀ a, H a ≠ none → H' a ≠ none ∧ (F a = none → ¬ O a → (NT (H a) → F' a = none) ∧ H' a = H a)
section
variable {O P : Addr → Prop} {F H F1 H1 F2 H2 : Hp} {p : Addr} {o : HO}
theorem Step.refl (e : Ex F H) : Step O F H F H := ⟨Ex.refl F, e, fun a h => ⟨h, fun f _ => ⟨fun _ => f, rfl⟩⟩⟩
theorem step_trans2 {P : Addr → Prop} (x : Step O F H F1 H1) (y : Step P F1 H1 F2 H2) (hp : ∀ a, H a ≠ none → ¬ O a → ¬ P a) : Step O F H F2 H2 := by
  obtain ⟨x1, x2, x3⟩ := x
  obtain ⟨y1, y2, y3⟩ := y
  refine ⟨x1.trans y1, y2, fun a h => ?_⟩
  obtain ⟨z1, z2⟩ := x3 a h
  obtain ⟨w1, w2⟩ := y3 a z1
  refine ⟨w1, fun f n => ?_⟩
  obtain ⟨u1, u2⟩ := z2 f n
  cases q : F1 a with
  | none =>
    obtain ⟨v1, v2⟩ := w2 q (hp a h n)
    exact ⟨fun t => v1 (by rw [u2]; exact t), v2.trans u2⟩
  | some o =>
    refine ⟨fun t => ?_, ((y2 a o (y1 a o q)).trans (x2 a o q).symm).trans u2⟩
    have z := u1 t
    rw [q] at z
    cases z
theorem Step.trans (x : Step O F H F1 H1) (y : Step O F1 H1 F2 H2) : Step O F H F2 H2 := step_trans2 x y fun _ _ n => n
theorem Step.mono (x : Step O F H F1 H1) (h : ∀ a, O a → H a ≠ none → F a = none → P a) : Step P F H F1 H1 :=
  ⟨x.1, x.2.1, fun a n => ⟨(x.2.2 a n).1, fun f np => (x.2.2 a n).2 f fun oa => np (h a oa n f)⟩⟩
theorem Step.ex (x : Step O F H F1 H1) : Ex F F1 := x.1
theorem Step.exH (x : Step O F H F1 H1) : Ex F1 H1 := x.2.1
theorem ex_none (e : Ex F H) (h : H p = none) : F p = none := fresh_back e h
theorem ex_upd (e : Ex F H) (hp : H p = none) : Ex (upd F p o) (upd H p o) := fun a u h => by
  by_cases ha : a = p
  · subst ha
    rw [upd_same] at h ⊢
    exact h
  · rw [upd_ne ha] at h ⊢
    exact e a u h
/-- a new thing that is never changed; a new thing; a change -/
theorem Step.new (e : Ex F H) (hp : H p = none) : Step O F H (upd F p o) (upd H p o) := by
  refine ⟨Ex.new (ex_none e hp), ex_upd e hp, fun a h => ?_⟩
  have ne : a ≠ p := fun z => h (z ▸ hp)
  rw [upd_ne ne, upd_ne ne]
  exact ⟨h, fun f _ => ⟨fun _ => f, rfl⟩⟩
theorem Step.newM (e : Ex F H) (hp : H p = none) : Step O F H F (upd H p o) := by
  refine ⟨Ex.refl F, e.trans (Ex.new hp), fun a h => ?_⟩
  have ne : a ≠ p := fun z => h (z ▸ hp)
  rw [upd_ne ne]
  exact ⟨h, fun f _ => ⟨fun _ => f, rfl⟩⟩
theorem Step.write (e : Ex F H) (hO : O p) (hF : F p = none) : Step O F H F (upd H p o) := by
  refine ⟨Ex.refl F, Ex.mut e hF, fun a h => ?_⟩
  by_cases ha : a = p
  · subst ha
    rw [upd_same]
    exact ⟨fun z => (nomatch z), fun f n => absurd hO n⟩
  · rw [upd_ne ha]
    exact ⟨h, fun f _ => ⟨fun _ => f, rfl⟩⟩
/-- a thing that was new becomes one that is never changed -/
theorem Step.freeze (x : Step O F H F1 H1) (hn : H p = none) (h1 : H1 p = some o) (f1 : F1 p = none) : Step O F H (upd F1 p o) H1 := by
  obtain ⟨x1, x2, x3⟩ := x
  refine ⟨x1.trans (Ex.new f1), fun a u h => ?_, fun a h => ?_⟩
  · by_cases ha : a = p
    · subst ha
      rw [upd_same] at h
      cases h
      exact h1
    · rw [upd_ne ha] at h
      exact x2 a u h
  · have ne : a ≠ p := fun z => h (z ▸ hn)
    rw [upd_ne ne]
    exact x3 a h
end
/-! ### the slots' data -/
inductive Sl where
  | no | fz (d : D) | ow (d : D) | pm (d : D) | rb (d : D)
abbrev S := List Sl
/-- what an own thing holds -/
def Cell (cl : PySem.Str → Addr) (F : Hp) (o : Option HO) : D → Prop
  | .lst ds => ∃ xs, o = some (.lst xs) ∧ DxAll cl F xs ds
  | .dk ks ds => ∃ us, o = some (.dK (ks.zip us)) ∧ KL ks us ∧ DxAll cl F us ds
  | .dt ks ds => ∃ us, o = some (.dT (ks.zip us)) ∧ KT2 ks us ∧ DxAll cl F us ds
  | .obj c ns ds => ∃ dx us, o = some (.ins (cl c) dx (ns.zip us)) ∧ ns.length = us.length ∧ DxAll cl F us ds
  | _ => False
def Sl.cell : Sl → Option D
  | .ow d => some d
  | .pm d => some d
  | _ => none
/-- a thing that is lent, to be read: it is known, and stays -/
def RbC (cl : PySem.Str → Addr) (F : Hp) (o : Option HO) (d : D) : Prop := ∃ od u, o = some (.frz od u) ∧ Cell cl F (some u) d
structure Ok (cl : PySem.Str → Addr) (F H : Hp) (σ : L2.St) (s : S) (ad : Nat → Addr) : Prop where
  ex : Ex F H
  len : σ.length = s.length
  fz : ∀ (i : Nat) (d : D), s[i]? = some (Sl.fz d) → ∃ v, σ[i]? = some (some v) ∧ Dx cl F v d
  ow : ∀ (i : Nat) (l : Sl) (d : D), s[i]? = some l → l.cell = some d → σ[i]? = some (some (.ref (ad i))) ∧ F (ad i) = none ∧ Cell cl F (H (ad i)) d
  ne : ∀ (i j : Nat) (l m : Sl) (d e : D), s[i]? = some l → l.cell = some d → s[j]? = some m → m.cell = some e → i ≠ j → ad i ≠ ad j
  rb : ∀ (i : Nat) (d : D), s[i]? = some (Sl.rb d) → σ[i]? = some (some (.ref (ad i))) ∧ F (ad i) = none ∧ RbC cl F (H (ad i)) d
def own (s : S) (ad : Nat → Addr) (a : Addr) : Prop := ∃ (i : Nat) (l : Sl) (d : D), s[i]? = some l ∧ l.cell = some d ∧ ad i = a
theorem Cell.mono {cl : PySem.Str → Addr} {F F' : Hp} (e : Ex F F') {o : Option HO} : ∀ {d : D}, Cell cl F o d → Cell cl F' o d
  | .lst ds, ⟨xs, h, a⟩ => ⟨xs, h, a.mono e⟩
  | .dk ks ds, ⟨us, h, l, a⟩ => ⟨us, h, l, a.mono e⟩
  | .dt ks ds, ⟨us, h, l, a⟩ => ⟨us, h, l, a.mono e⟩
  | .obj c ns ds, ⟨dx, us, h, l, a⟩ => ⟨dx, us, h, l, a.mono e⟩
theorem Cell.nn {cl : PySem.Str → Addr} {F : Hp} {o : Option HO} : ∀ {d : D}, Cell cl F o d → o ≠ none
  | .lst ds, ⟨xs, h, a⟩ => by rw [h]; exact fun z => nomatch z
  | .dk ks ds, ⟨us, h, l, a⟩ => by rw [h]; exact fun z => nomatch z
  | .dt ks ds, ⟨us, h, l, a⟩ => by rw [h]; exact fun z => nomatch z
  | .obj c ns ds, ⟨dx, us, h, l, a⟩ => by rw [h]; exact fun z => nomatch z
theorem Cell.nt {cl : PySem.Str → Addr} {F : Hp} {o : Option HO} : ∀ {d : D}, Cell cl F o d → NT o
  | .lst ds, ⟨xs, h, a⟩ => by rw [h]; exact fun _ z => nomatch z
  | .dk ks ds, ⟨us, h, l, a⟩ => by rw [h]; exact fun _ z => nomatch z
  | .dt ks ds, ⟨us, h, l, a⟩ => by rw [h]; exact fun _ z => nomatch z
  | .obj c ns ds, ⟨dx, us, h, l, a⟩ => by rw [h]; exact fun _ z => nomatch z
theorem Cell.nf {cl : PySem.Str → Addr} {F : Hp} {o : Option HO} {od : Obj} {u : HO} : ∀ {d : D}, Cell cl F o d → o ≠ some (.frz od u)
  | .lst ds, ⟨xs, h, a⟩ => by rw [h]; exact fun z => nomatch z
  | .dk ks ds, ⟨us, h, l, a⟩ => by rw [h]; exact fun z => nomatch z
  | .dt ks ds, ⟨us, h, l, a⟩ => by rw [h]; exact fun z => nomatch z
  | .obj c ns ds, ⟨dx, us, h, l, a⟩ => by rw [h]; exact fun z => nomatch z
theorem RbC.mono {cl : PySem.Str → Addr} {F F' : Hp} {o : Option HO} {d : D} (e : Ex F F') (h : RbC cl F o d) : RbC cl F' o d :=
  let ⟨od, u, h1, h2⟩ := h
  ⟨od, u, h1, h2.mono e⟩
section
variable {cl : PySem.Str → Addr} {F H F' H' : Hp} {σ : L2.St} {s : S} {ad : Nat → Addr}
/-- own and lent things stand apart -/
theorem rb_own {o : Option HO} {a b : Addr} {d e : D} (h : RbC cl F (H a) d) (c : Cell cl F' (H b) e) : a ≠ b := fun z => by
  obtain ⟨od, u, h1, _⟩ := h
  rw [z] at h1
  exact c.nf h1
/-- own things untouched -/
theorem Ok.step {O : Addr → Prop} (k : Ok cl F H σ s ad) (x : Step O F H F' H') (h : ∀ a, own s ad a → ¬ O a) (h2 : ∀ a od u, H a = some (.frz od u) → ¬ O a) : Ok cl F' H' σ s ad where
  ex := x.exH
  len := k.len
  fz := fun i d e => let ⟨v, h1, h2⟩ := k.fz i d e; ⟨v, h1, h2.mono x.ex⟩
  ow := fun i l d e c => by
    obtain ⟨h1, h2, h3⟩ := k.ow i l d e c
    obtain ⟨z1, z2⟩ := x.2.2 (ad i) h3.nn
    obtain ⟨w1, w2⟩ := z2 h2 (h _ ⟨i, l, d, e, c, rfl⟩)
    refine ⟨h1, w1 h3.nt, ?_⟩
    rw [w2]
    exact h3.mono x.ex
  ne := k.ne
  rb := fun i d e => by
    obtain ⟨h1, f1, od, u, h4, h5⟩ := k.rb i d e
    obtain ⟨z1, z2⟩ := x.2.2 (ad i) (by rw [h4]; exact fun z => nomatch z)
    obtain ⟨w1, w2⟩ := z2 f1 (h2 _ od u h4)
    refine ⟨h1, w1 (by rw [h4]; exact fun _ z => nomatch z), od, u, ?_, h5.mono x.ex⟩
    rw [w2]
    exact h4
/-- what is lent stays known -/
def Kp (F H F1 H1 : Hp) : Prop := Ex F F1 ∧ Ex F1 H1 ∧ ∀ a od u, H a = some (.frz od u) → F a = none → H1 a = some (.frz od u)
theorem Kp.refl (e : Ex F H) : Kp F H F H := ⟨Ex.refl F, e, fun _ _ _ h _ => h⟩
theorem Kp.trans {F1 H1 F2 H2 : Hp} (x : Kp F H F1 H1) (y : Kp F1 H1 F2 H2) : Kp F H F2 H2 := ⟨x.1.trans y.1, y.2.1, fun a od u h f => by
  have h1 := x.2.2 a od u h f
  cases z : F1 a with
  | none => exact y.2.2 a od u h1 z
  | some o =>
    have e1 := x.2.1 a o z
    rw [h1] at e1
    cases e1
    exact y.2.1 _ _ (y.1 _ _ z)⟩
theorem Kp.of {O : Addr → Prop} {F1 H1 : Hp} (x : Step O F H F1 H1) (h : ∀ a od u, H a = some (.frz od u) → ¬ O a) : Kp F H F1 H1 := ⟨x.1, x.2.1, fun a od u g f => by
  rw [((x.2.2 a (by rw [g]; exact fun z => nomatch z)).2 f (h a od u g)).2]
  exact g⟩
theorem Ok.nfz (k : Ok cl F H σ s ad) {a : Addr} {od : Obj} {u : HO} (h : H a = some (.frz od u)) : ¬ own s ad a := fun ⟨i, l, d, e, c, z⟩ => by
  obtain ⟨_, _, h3⟩ := k.ow i l d e c
  rw [z] at h3
  exact h3.nf h
end
/-- from one moment to a later one: F, H and the slots' data -/
structure Po (cl : PySem.Str → Addr) (F H : Hp) (s : S) (ad : Nat → Addr) (F' H' : Hp) (σ' : L2.St) (s' : S) (ad' : Nat → Addr) : Prop where
  step : Step (own s ad) F H F' H'
  ok : Ok cl F' H' σ' s' ad'
  sub : ∀ a, own s' ad' a → own s ad a ∨ H a = none
  pms : ∀ (i : Nat) (d : D), s[i]? = some (Sl.pm d) → ad' i = ad i ∧ ∃ d', s'[i]? = some (Sl.pm d')
section
variable {cl : PySem.Str → Addr} {F H F1 H1 F2 H2 : Hp} {σ σ1 σ2 : L2.St} {s s1 s2 : S} {ad ad1 ad2 : Nat → Addr}
theorem Po.refl (k : Ok cl F H σ s ad) : Po cl F H s ad F H σ s ad := ⟨.refl k.ex, k, fun a h => .inl h, fun i d e => ⟨rfl, d, e⟩⟩
theorem Po.trans (x : Po cl F H s ad F1 H1 σ1 s1 ad1) (y : Po cl F1 H1 s1 ad1 F2 H2 σ2 s2 ad2) : Po cl F H s ad F2 H2 σ2 s2 ad2 := by
  refine ⟨step_trans2 x.step y.step fun a h n o => ?_, y.ok, fun a h => ?_, fun i d e => ?_⟩
  · rcases x.sub a o with z | z
    · exact n z
    · exact h z
  · rcases y.sub a h with z | z
    · exact x.sub a z
    · refine .inr ?_
      cases q : H a with
      | none => rfl
      | some o => exact absurd z (x.step.2.2 a (by rw [q]; exact fun z => nomatch z)).1
  · obtain ⟨h1, d1, e1⟩ := x.pms i d e
    obtain ⟨h2, d2, e2⟩ := y.pms i d1 e1
    exact ⟨h2.trans h1, d2, e2⟩
/-- nothing own is touched -/
theorem Po.step0 (k : Ok cl F H σ s ad) (x : Step (fun _ => False) F H F1 H1) : Po cl F H s ad F1 H1 σ s ad :=
  ⟨x.mono fun a o _ _ => o.elim, k.step x (fun a _ o => o) (fun _ _ _ _ o => o), fun a h => .inl h, fun i d e => ⟨rfl, d, e⟩⟩
theorem Po.kp (x : Po cl F H s ad F1 H1 σ1 s1 ad1) (k : Ok cl F H σ s ad) : Kp F H F1 H1 := .of x.step fun a od u h => k.nfz h
theorem own_some (k : Ok cl F H σ s ad) {a : Addr} (h : own s ad a) : H a ≠ none ∧ F a = none := by
  obtain ⟨i, l, d, e, c, rfl⟩ := h
  obtain ⟨_, h2, h3⟩ := k.ow i l d e c
  exact ⟨h3.nn, h2⟩
end
end Fr

set_option Elab.async false
set_option linter.all false
set_option maxRecDepth 100000
set_option maxHeartbeats 2000000
namespace Fr
open PySem PySem.Spec PyProof.Rows L2 Evl
abbrev M := S → Option (D × S)
abbrev MT := S → Option (Bool × S)
abbrev MA := S → Option (List D × S)
abbrev MO := S → Option (Option Int × S)
variable {cl : PySem.Str → Addr}
/-- te does what m tells; EvN: its value is a thing just made -/
class EvX (cl : PySem.Str → Addr) (te : TE) (m : M) : Prop where
  run : ∀ {F H : Hp} {σ : L2.St} {s : S} {ad : Nat → Addr} {d : D} {s' : S}, Ok cl F H σ s ad → m s = some (d, s') → ∀ Q : VK, (∀ v F' H', Po cl F H s ad F' H' σ s' ad → Dx cl F' v d → Q v H') → te σ H Q
class EvN (cl : PySem.Str → Addr) (te : TE) (m : M) : Prop where
  run : ∀ {F H : Hp} {σ : L2.St} {s : S} {ad : Nat → Addr} {d : D} {s' : S}, Ok cl F H σ s ad → m s = some (d, s') → ∀ Q : VK, (∀ p F' H', H p = none → F' p = none → (∀ a, own s' ad a → a ≠ p) → Po cl F H s ad F' H' σ s' ad → Cell cl F' (H' p) d → Q (.ref p) H') → te σ H Q
class EvT (cl : PySem.Str → Addr) (tt : TT) (m : MT) : Prop where
  run : ∀ {F H : Hp} {σ : L2.St} {s : S} {ad : Nat → Addr} {d : Bool} {s' : S}, Ok cl F H σ s ad → m s = some (d, s') → ∀ Q : Bool → Hp → Prop, (∀ F' H', Po cl F H s ad F' H' σ s' ad → Q d H') → tt σ H Q
class EvA (cl : PySem.Str → Addr) (ta : TA) (m : MA) : Prop where
  run : ∀ {F H : Hp} {σ : L2.St} {s : S} {ad : Nat → Addr} {ds : List D} {s' : S}, Ok cl F H σ s ad → m s = some (ds, s') → ∀ Q : List V → Hp → Prop, (∀ vs F' H', Po cl F H s ad F' H' σ s' ad → DxAll cl F' vs ds → Q vs H') → ta σ H Q
class EvO (cl : PySem.Str → Addr) (to : TO) (m : MO) : Prop where
  run : ∀ {F H : Hp} {σ : L2.St} {s : S} {ad : Nat → Addr} {d : Option Int} {s' : S}, Ok cl F H σ s ad → m s = some (d, s') → ∀ Q : Option Int → Hp → Prop, (∀ F' H', Po cl F H s ad F' H' σ s' ad → Q d H') → to σ H Q
/-- an operation on values; a call of a built-in -/
class OpX (cl : PySem.Str → Addr) (r : R2) (f : D → D → Option D) : Prop where
  run : ∀ {F H : Hp} {x y : V} {dx dy d : D}, Ex F H → Dx cl F x dx → Dx cl F y dy → f dx dy = some d → ∀ Q : VK, (∀ v F' H', Step (fun _ => False) F H F' H' → Dx cl F' v d → Q v H') → r x y H Q
class CaX (cl : PySem.Str → Addr) (r : List V → Hp → VK → Prop) (f : List D → Option D) : Prop where
  run : ∀ {F H : Hp} {xs : List V} {ds : List D} {d : D}, Ex F H → DxAll cl F xs ds → f ds = some d → ∀ Q : VK, (∀ v F' H', Step (fun _ => False) F H F' H' → Dx cl F' v d → Q v H') → r xs H Q
theorem bind_some {α β : Type} {x : Option α} {f : α → Option β} {b : β} (h : x.bind f = some b) : ∃ a, x = some a ∧ f a = some b := by
  cases x with
  | none => cases h
  | some a => exact ⟨a, rfl, h⟩
/-! ### what the readings tell -/
def mVar (i : Nat) : M := fun s => match s[i]? with
  | some (.fz d) => some (d, s)
  | _ => none
def mC (d : D) : M := fun s => some (d, s)
def mOp (f : D → D → Option D) (a b : M) : M := fun s => (a s).bind fun p => (b p.2).bind fun q => (f p.1 q.1).map fun d => (d, q.2)
def mNil : MA := fun s => some ([], s)
def mCons (a : M) (r : MA) : MA := fun s => (a s).bind fun p => (r p.2).bind fun q => some (p.1 :: q.1, q.2)
def mCB (f : List D → Option D) (a : MA) : M := fun s => (a s).bind fun p => (f p.1).map fun d => (d, p.2)
def D.b : D → Option Bool
  | .bl b => some b
  | _ => none
def mT (a : M) : MT := fun s => (a s).bind fun p => p.1.b.map fun b => (b, p.2)
def mAnd (a b : MT) : MT := fun s => (a s).bind fun p => if p.1 = true then b p.2 else some (false, p.2)
def mOr (a b : MT) : MT := fun s => (a s).bind fun p => if p.1 = true then some (true, p.2) else b p.2
def mNot (a : MT) : MT := fun s => (a s).map fun p => (!p.1, p.2)
def mB (a : MT) : M := fun s => (a s).map fun p => (.bl p.1, p.2)
def mAndV (a b : M) : M := fun s => (a s).bind fun p => p.1.b.bind fun c => if c = true then b p.2 else some (.bl false, p.2)
def mOrV (a b : M) : M := fun s => (a s).bind fun p => p.1.b.bind fun c => if c = true then some (.bl true, p.2) else b p.2
def mNotV (a : M) : M := fun s => (a s).bind fun p => p.1.b.map fun c => (.bl (!c), p.2)
def mIf (t : MT) (a b : M) : M := fun s => (t s).bind fun p => if p.1 = true then a p.2 else b p.2
def mTup (a : MA) : M := fun s => (a s).bind fun p => if p.1.length ≤ 100000 then some (.tup p.1, p.2) else none
def mLst (a : MA) : M := fun s => (a s).bind fun p => if p.1.length ≤ 100000 then some (.lst p.1, p.2) else none
def mNo : MO := fun s => some (none, s)
def D.i : D → Option Int
  | .int i => some i
  | _ => none
def mPart (a : M) : MO := fun s => (a s).bind fun p => p.1.i.map fun i => (some i, p.2)
def cutD {α : Type} (xs : List α) (lo hi : Option Int) : List α := (xs.drop (HT.sIx xs.length 0 lo)).take (HT.sIx xs.length xs.length hi - HT.sIx xs.length 0 lo)
def dSl (d : D) (lo hi : Option Int) : Option D := match d with
  | .lst xs => some (.lst (cutD xs lo hi))
  | .tup xs => some (.tup (cutD xs lo hi))
  | _ => none
def mSl (a : M) (lo hi : MO) : M := fun s => (a s).bind fun p => (lo p.2).bind fun q => (hi q.2).bind fun r => (dSl p.1 q.1 r.1).map fun d => (d, r.2)
def mChain (f g : D → D → Option D) (a b c : M) : M := fun s => (a s).bind fun p => (b p.2).bind fun q => (f p.1 q.1).bind fun z => z.b.bind fun k => if k = true then (c q.2).bind fun r => (g q.1 r.1).map fun d => (d, r.2) else some (.bl false, q.2)
section
variable {ta tb tc te : TE} {ma mb mc m : M} {r r' : R2} {f g : D → D → Option D}
instance i_var {i : Nat} : EvX cl (tVar i) (mVar i) := ⟨fun {F H σ s ad d s'} k e Q q => by
  unfold mVar at e
  split at e
  · rename_i d0 h0
    cases e
    obtain ⟨v, h1, h2⟩ := k.fz i _ h0
    exact ⟨v, h1, q v F H (.refl k) h2⟩
  · cases e⟩
instance i_non : EvX cl (tC .non) (mC .non) := ⟨fun {F H σ s ad d s'} k e Q q => by
  cases e
  exact q _ F H (.refl k) .non⟩
instance i_bl {b : Bool} : EvX cl (tC (.bl b)) (mC (.bl b)) := ⟨fun {F H σ s ad d s'} k e Q q => by
  cases e
  exact q _ F H (.refl k) (.bl b)⟩
instance i_int {i : Int} : EvX cl (tC (.int i)) (mC (.int i)) := ⟨fun {F H σ s ad d s'} k e Q q => by
  cases e
  exact q _ F H (.refl k) (.int i)⟩
theorem i_str {x : PySem.Str} (h : PyData.strOk x = true) : EvX cl (tC (.str x)) (mC (.str x)) := ⟨fun {F H σ s ad d s'} k e Q q => by
  cases e
  exact q _ F H (.refl k) (.str x h)⟩
instance i_op [A : EvX cl ta ma] [B : EvX cl tb mb] [O : OpX cl r f] : EvX cl (tOp r ta tb) (mOp f ma mb) := ⟨fun {F H σ s ad d s'} k e Q q => by
  obtain ⟨p, e1, e⟩ := bind_some e
  obtain ⟨p2, e2, e⟩ := bind_some e
  obtain ⟨d1, e3, e⟩ := Option.map_eq_some_iff.mp e
  cases e
  refine A.run k e1 _ fun v F1 H1 x1 h1 => B.run x1.ok e2 _ fun u F2 H2 x2 h2 => O.run x2.ok.ex (h1.mono x2.step.ex) h2 e3 _ fun z F3 H3 x3 h3 => ?_
  exact q z F3 H3 ((x1.trans x2).trans (.step0 x2.ok x3)) h3⟩
instance i_nil : EvA cl tNil mNil := ⟨fun {F H σ s ad d s'} k e Q q => by
  cases e
  exact q [] F H (.refl k) .nil⟩
instance i_cons {tr : TA} {mr : MA} [A : EvX cl ta ma] [B : EvA cl tr mr] : EvA cl (tCons ta tr) (mCons ma mr) := ⟨fun {F H σ s ad d s'} k e Q q => by
  obtain ⟨p, e1, e⟩ := bind_some e
  obtain ⟨p2, e2, e⟩ := bind_some e
  cases e
  exact A.run k e1 _ fun v F1 H1 x1 h1 => B.run x1.ok e2 _ fun us F2 H2 x2 h2 => q _ F2 H2 (x1.trans x2) (.cons (h1.mono x2.step.ex) h2)⟩
instance i_cb {t : TA} {mt : MA} {r : List V → Hp → VK → Prop} {f : List D → Option D} [A : EvA cl t mt] [O : CaX cl r f] : EvX cl (tCB r t) (mCB f mt) := ⟨fun {F H σ s ad d s'} k e Q q => by
  obtain ⟨p, e1, e⟩ := bind_some e
  obtain ⟨d1, e3, e⟩ := Option.map_eq_some_iff.mp e
  cases e
  exact A.run k e1 _ fun vs F1 H1 x1 h1 => O.run x1.ok.ex h1 e3 _ fun z F3 H3 x3 h3 => q z F3 H3 (x1.trans (.step0 x1.ok x3)) h3⟩
theorem bl_of {F : Hp} {v : V} {d : D} {b : Bool} (h : Dx cl F v d) (e : d.b = some b) : v = .bl b := by
  cases h <;> first | cases e | skip
  rfl
theorem int_of {F : Hp} {v : V} {d : D} {i : Int} (h : Dx cl F v d) (e : d.i = some i) : v = .int i := by
  cases h <;> first | cases e | skip
  rfl
instance i_test [A : EvX cl ta ma] : EvT cl (tTest ta) (mT ma) := ⟨fun {F H σ s ad d s'} k e Q q => by
  obtain ⟨p, e1, e⟩ := bind_some e
  obtain ⟨d1, e3, e⟩ := Option.map_eq_some_iff.mp e
  cases e
  exact A.run k e1 _ fun v F1 H1 x1 h1 => ⟨_, bl_of h1 e3, q F1 H1 x1⟩⟩
instance i_tB [A : EvX cl ta ma] : EvT cl (tB ta) (mT ma) := ⟨fun {F H σ s ad d s'} k e Q q => by
  obtain ⟨p, e1, e⟩ := bind_some e
  obtain ⟨d1, e3, e⟩ := Option.map_eq_some_iff.mp e
  cases e
  exact A.run k e1 _ fun v F1 H1 x1 h1 => ⟨_, bl_of h1 e3, q F1 H1 x1⟩⟩
instance i_and {t u : TT} {a b : MT} [A : EvT cl t a] [B : EvT cl u b] : EvT cl (tAnd t u) (mAnd a b) := ⟨fun {F H σ s ad d s'} k e Q q => by
  obtain ⟨⟨c, s1⟩, e1, e⟩ := bind_some e
  refine A.run k e1 _ fun F1 H1 x1 => ?_
  cases c with
  | true => exact B.run x1.ok (by simpa using e) _ fun F2 H2 x2 => q F2 H2 (x1.trans x2)
  | false =>
    cases (show some (false, s1) = some (d, s') by simpa using e)
    exact q F1 H1 x1⟩
instance i_or {t u : TT} {a b : MT} [A : EvT cl t a] [B : EvT cl u b] : EvT cl (tOr t u) (mOr a b) := ⟨fun {F H σ s ad d s'} k e Q q => by
  obtain ⟨⟨c, s1⟩, e1, e⟩ := bind_some e
  refine A.run k e1 _ fun F1 H1 x1 => ?_
  cases c with
  | false => exact B.run x1.ok (by simpa using e) _ fun F2 H2 x2 => q F2 H2 (x1.trans x2)
  | true =>
    cases (show some (true, s1) = some (d, s') by simpa using e)
    exact q F1 H1 x1⟩
instance i_not {t : TT} {a : MT} [A : EvT cl t a] : EvT cl (tNot t) (mNot a) := ⟨fun {F H σ s ad d s'} k e Q q => by
  obtain ⟨⟨c, s1⟩, e1, e⟩ := Option.map_eq_some_iff.mp e
  cases e
  exact A.run k e1 _ fun F1 H1 x1 => q F1 H1 x1⟩
instance i_andV [A : EvX cl ta ma] [B : EvX cl tb mb] : EvX cl (tAndV ta tb) (mAndV ma mb) := ⟨fun {F H σ s ad d s'} k e Q q => by
  obtain ⟨⟨c, s1⟩, e1, e⟩ := bind_some e
  obtain ⟨b, e2, e⟩ := bind_some e
  refine A.run k e1 _ fun v F1 H1 x1 h1 => ⟨b, bl_of h1 e2, ?_⟩
  cases b with
  | true => exact B.run x1.ok (by simpa using e) _ fun v2 F2 H2 x2 => q v2 F2 H2 (x1.trans x2)
  | false =>
    cases (show some (D.bl false, s1) = some (d, s') by simpa using e)
    exact q _ F1 H1 x1 (.bl false)⟩
instance i_orV [A : EvX cl ta ma] [B : EvX cl tb mb] : EvX cl (tOrV ta tb) (mOrV ma mb) := ⟨fun {F H σ s ad d s'} k e Q q => by
  obtain ⟨⟨c, s1⟩, e1, e⟩ := bind_some e
  obtain ⟨b, e2, e⟩ := bind_some e
  refine A.run k e1 _ fun v F1 H1 x1 h1 => ⟨b, bl_of h1 e2, ?_⟩
  cases b with
  | false => exact B.run x1.ok (by simpa using e) _ fun v2 F2 H2 x2 => q v2 F2 H2 (x1.trans x2)
  | true =>
    cases (show some (D.bl true, s1) = some (d, s') by simpa using e)
    exact q _ F1 H1 x1 (.bl true)⟩
instance i_notV [A : EvX cl ta ma] : EvX cl (tNotV ta) (mNotV ma) := ⟨fun {F H σ s ad d s'} k e Q q => by
  obtain ⟨⟨c, s1⟩, e1, e⟩ := bind_some e
  obtain ⟨b, e2, e⟩ := Option.map_eq_some_iff.mp e
  cases e
  exact A.run k e1 _ fun v F1 H1 x1 h1 => ⟨b, bl_of h1 e2, q _ F1 H1 x1 (.bl _)⟩⟩
instance i_if {t : TT} {mt : MT} [T : EvT cl t mt] [A : EvX cl ta ma] [B : EvX cl tb mb] : EvX cl (tIf t ta tb) (mIf mt ma mb) := ⟨fun {F H σ s ad d s'} k e Q q => by
  obtain ⟨⟨c, s1⟩, e1, e⟩ := bind_some e
  refine T.run k e1 _ fun F1 H1 x1 => ?_
  cases c with
  | true => exact A.run x1.ok (by simpa using e) _ fun v2 F2 H2 x2 => q v2 F2 H2 (x1.trans x2)
  | false => exact B.run x1.ok (by simpa using e) _ fun v2 F2 H2 x2 => q v2 F2 H2 (x1.trans x2)⟩
instance i_tup {t : TA} {mt : MA} [A : EvA cl t mt] : EvX cl (tTup t) (mTup mt) := ⟨fun {F H σ s ad d s'} k e Q q => by
  obtain ⟨⟨ds, s1⟩, e1, e⟩ := bind_some e
  by_cases hl : ds.length ≤ 100000
  · rw [if_pos hl] at e
    cases e
    refine A.run k e1 _ fun vs F1 H1 x1 h1 => ⟨sz_of (by rw [h1.length]; exact hl), fun p hp => ?_⟩
    have st : Step (fun _ => False) F1 H1 (upd F1 p (.tup vs)) (upd H1 p (.tup vs)) := .new x1.ok.ex hp
    exact q _ _ _ (x1.trans (.step0 x1.ok st)) (.tup upd_same (h1.mono st.ex))
  · rw [if_neg hl] at e
    cases e⟩
instance n_lst {t : TA} {mt : MA} [A : EvA cl t mt] : EvN cl (tLst t) (mLst mt) := ⟨fun {F H σ s ad d s'} k e Q q => by
  obtain ⟨⟨ds, s1⟩, e1, e⟩ := bind_some e
  by_cases hl : ds.length ≤ 100000
  · rw [if_pos hl] at e
    cases e
    refine A.run k e1 _ fun vs F1 H1 x1 h1 => ⟨sz_of (by rw [h1.length]; exact hl), fun p hp => ?_⟩
    have st : Step (fun _ => False) F1 H1 F1 (upd H1 p (.lst vs)) := .newM x1.ok.ex hp
    have n0 : H p = none := by
      cases z : H p with
      | none => rfl
      | some o => exact absurd hp (x1.step.2.2 p (by rw [z]; exact fun z => nomatch z)).1
    exact q p _ _ n0 (ex_none x1.ok.ex hp) (fun a o z => (own_some x1.ok o).1 (z ▸ hp)) (x1.trans (.step0 x1.ok st)) ⟨vs, upd_same, h1⟩
  · rw [if_neg hl] at e
    cases e⟩
theorem Cell.dx {F : Hp} {p : Addr} {o : HO} {ds : List D} (hn : F p = none) (h : Cell cl F (some o) (.lst ds)) : Dx cl (upd F p o) (.ref p) (.lst ds) := by
  obtain ⟨xs, h, a⟩ := h
  cases h
  exact .lst upd_same (a.mono (Ex.new hn))
/-- a thing just made, never changed later -/
theorem EvN.toX [A : EvN cl te m] (hl : ∀ {s : S} {d : D} {s' : S}, m s = some (d, s') → ∃ ds, d = .lst ds) : EvX cl te m := ⟨fun {F H σ s ad d s'} k e Q q => A.run k e Q fun p F1 H1 hn f1 np x1 c1 => by
  obtain ⟨ds, rfl⟩ := hl e
  cases h1 : H1 p with
  | none => exact absurd h1 c1.nn
  | some o =>
    rw [h1] at c1
    have st := x1.step.freeze hn h1 f1
    have ok2 : Ok cl (upd F1 p o) H1 σ s' ad := by
      have g := x1.ok
      refine ⟨st.exH, g.len, fun i d e => ?_, fun i l d e c => ?_, g.ne, fun i d e => ?_⟩
      · obtain ⟨v, h1, h2⟩ := g.fz i d e
        exact ⟨v, h1, h2.mono (Ex.new f1)⟩
      · obtain ⟨h1, h2, h3⟩ := g.ow i l d e c
        refine ⟨h1, ?_, h3.mono (Ex.new f1)⟩
        rw [upd_ne (np _ ⟨i, l, d, e, c, rfl⟩)]
        exact h2
      · obtain ⟨h2, h3, h4⟩ := g.rb i d e
        refine ⟨h2, ?_, h4.mono (Ex.new f1)⟩
        rw [upd_ne fun z => ?_]
        · exact h3
        · obtain ⟨od, u, h5, _⟩ := h4
          rw [z, h1] at h5
          exact c1.nf h5
    exact q (.ref p) _ H1 ⟨st, ok2, x1.sub, x1.pms⟩ (Cell.dx f1 c1)⟩
instance i_lst {t : TA} {mt : MA} [A : EvA cl t mt] : EvX cl (tLst t) (mLst mt) := EvN.toX fun {s d s'} e => by
  obtain ⟨p, _, e⟩ := bind_some e
  by_cases h : p.1.length ≤ 100000
  · rw [if_pos h] at e
    cases e
    exact ⟨_, rfl⟩
  · rw [if_neg h] at e
    cases e
instance o_no : EvO cl tNoPart mNo := ⟨fun {F H σ s ad d s'} k e Q q => by
  cases e
  exact q F H (.refl k)⟩
instance o_part [A : EvX cl ta ma] : EvO cl (tPart ta) (mPart ma) := ⟨fun {F H σ s ad d s'} k e Q q => by
  obtain ⟨p, e1, e⟩ := bind_some e
  obtain ⟨d1, e3, e⟩ := Option.map_eq_some_iff.mp e
  cases e
  exact A.run k e1 _ fun v F1 H1 x1 h1 => ⟨_, int_of h1 e3, q F1 H1 x1⟩⟩
theorem DxAll.cut {F : Hp} {vs : List V} {ds : List D} {lo hi : Option Int} (h : DxAll cl F vs ds) : DxAll cl F (cutV vs lo hi) (cutD ds lo hi) := by
  unfold cutV cutD
  rw [h.length]
  exact (h.drop _).take _
instance i_sl {K : PySem.W.Frag} {lo hi : TO} {mlo mhi : MO} [A : EvX cl ta ma] [B : EvO cl lo mlo] [C : EvO cl hi mhi] : EvX cl (tSl (U.rSlU K) ta lo hi) (mSl ma mlo mhi) := ⟨fun {F H σ s ad d s'} k e Q q => by
  obtain ⟨p, e1, e⟩ := bind_some e
  obtain ⟨p2, e2, e⟩ := bind_some e
  obtain ⟨p3, e3, e⟩ := bind_some e
  obtain ⟨d1, e4, e⟩ := Option.map_eq_some_iff.mp e
  cases e
  refine A.run k e1 _ fun v F1 H1 x1 h1 => B.run x1.ok e2 _ fun F2 H2 x2 => C.run x2.ok e3 _ fun F3 H3 x3 => ?_
  have x := (x1.trans x2).trans x3
  have h3 := h1.mono (x2.trans x3).step.ex
  obtain ⟨pd, ps⟩ := p
  have e4 : dSl pd p2.1 p3.1 = some d := e4
  have h3 : Dx cl F3 v pd := h3
  cases h3 with
  | @lst a xs ds h a2 =>
    cases e4
    refine .inl ⟨a, xs, rfl, sq_of (x.ok.ex _ _ h), fun r hr => ?_⟩
    have st : Step (fun _ => False) F3 H3 (upd F3 r (.lst (cutV xs p2.1 p3.1))) (upd H3 r (.lst (cutV xs p2.1 p3.1))) := .new x.ok.ex hr
    exact q _ _ _ (x.trans (.step0 x.ok st)) (.lst upd_same (a2.cut.mono st.ex))
  | @tup a xs ds h a2 =>
    cases e4
    refine .inr ⟨a, xs, rfl, st_of (x.ok.ex _ _ h), fun z => ?_, fun z r hr => ?_⟩
    · have e5 : cutD ds p2.1 p3.1 = ds := by
        unfold cutD
        rw [← a2.length, z.1, z.2]
        simp [a2.length]
      exact q _ _ _ x (by rw [e5]; exact .tup h a2)
    · have st : Step (fun _ => False) F3 H3 (upd F3 r (.tup (cutV xs p2.1 p3.1))) (upd H3 r (.tup (cutV xs p2.1 p3.1))) := .new x.ok.ex hr
      exact q _ _ _ (x.trans (.step0 x.ok st)) (.tup upd_same (a2.cut.mono st.ex))
  | _ => cases e4⟩
instance i_chain [A : EvX cl ta ma] [B : EvX cl tb mb] [C : EvX cl tc mc] [O : OpX cl r f] [O' : OpX cl r' g] : EvX cl (tChain r r' ta tb tc) (mChain f g ma mb mc) := ⟨fun {F H σ s ad d s'} k e Q q => by
  obtain ⟨p, e1, e⟩ := bind_some e
  obtain ⟨p2, e2, e⟩ := bind_some e
  obtain ⟨z, e3, e⟩ := bind_some e
  obtain ⟨c, e4, e⟩ := bind_some e
  refine A.run k e1 _ fun v F1 H1 x1 h1 => B.run x1.ok e2 _ fun u F2 H2 x2 h2 => O.run x2.ok.ex (h1.mono x2.step.ex) h2 e3 _ fun w F3 H3 x3 h3 => ⟨c, bl_of h3 e4, ?_⟩
  have x := (x1.trans x2).trans (.step0 x2.ok x3)
  cases c with
  | true =>
    obtain ⟨p4, e5, e⟩ := bind_some (by simpa using e)
    obtain ⟨d1, e6, e⟩ := Option.map_eq_some_iff.mp e
    cases e
    simp only [if_true]
    exact C.run x.ok e5 _ fun y F4 H4 x4 h4 => O'.run x4.ok.ex (h2.mono ((Ex.trans x3.ex x4.step.ex))) h4 e6 _ fun w2 F5 H5 x5 h5 => q _ _ _ ((x.trans x4).trans (.step0 x4.ok x5)) h5
  | false =>
    cases (show some (D.bl false, p2.2) = some (d, s') by simpa using e)
    simp only [Bool.false_eq_true, if_false]
    exact q _ _ _ x (.bl false)⟩
end
end Fr

set_option Elab.async false
set_option linter.all false
set_option maxRecDepth 100000
set_option maxHeartbeats 2000000
namespace Fr
open PySem PySem.Spec PyProof.Rows L2 Evl
variable {cl : PySem.Str → Addr}
/-! ### plain data -/
mutual
def D.py : D → PyData
  | .non => .none
  | .bl b => .bool b
  | .int i => .int i
  | .str x => .str x
  | .lst xs => .list (pys xs)
  | .tup xs => .tuple (pys xs)
  | .dk _ _ => .dict []
  | .dt _ _ => .dict []
  | .obj _ _ _ => .dict []
def pys : List D → List PyData
  | [] => []
  | d :: ds => d.py :: pys ds
end
mutual
def D.plain : D → Bool
  | .lst xs => plains xs
  | .tup xs => plains xs
  | .dk _ _ => false
  | .dt _ _ => false
  | .obj _ _ _ => false
  | _ => true
def plains : List D → Bool
  | [] => true
  | d :: ds => d.plain && plains ds
end
section
variable {K : PySem.W.Frag} {F : Hp}
mutual
theorem Dx.dp : ∀ {v : V} {d : D}, Dx cl F v d → d.plain = true → Dp K F v d.py
  | _, _, .non, _ => by simp only [D.py]; exact .non
  | _, _, .bl b, _ => by simp only [D.py]; exact .bl b
  | _, _, .int i, _ => by simp only [D.py]; exact .int i
  | _, _, .str x _, _ => by simp only [D.py]; exact .str x
  | _, _, .lst h a, p => by simp only [D.py]; exact .lst (sq_of h) (DxAll.dp a (by simpa only [D.plain] using p))
  | _, _, .tup h a, p => by simp only [D.py]; exact .tup (st_of h) (DxAll.dp a (by simpa only [D.plain] using p))
  | _, _, .dk _ _ _, p => by simp [D.plain] at p
  | _, _, .dt _ _ _, p => by simp [D.plain] at p
  | _, _, .obj _ _ _, p => by simp [D.plain] at p
theorem DxAll.dp : ∀ {vs : List V} {ds : List D}, DxAll cl F vs ds → plains ds = true → DpAll K F vs (pys ds)
  | _, _, .nil, _ => by simp only [pys]; exact .nil
  | _, _, .cons h a, p => by
    simp only [pys]
    simp only [plains, Bool.and_eq_true] at p
    exact .cons (Dx.dp h p.1) (DxAll.dp a p.2)
end
mutual
theorem Dx.lay : ∀ {v : V} {d : D}, Dx cl F v d → d.plain = true → d.py.canLay0 = true
  | _, _, .non, _ => by simp only [D.py, PyData.canLay0]
  | _, _, .bl b, _ => by simp only [D.py, PyData.canLay0]
  | _, _, .int i, _ => by simp only [D.py, PyData.canLay0]
  | _, _, .str x h, _ => by simp only [D.py, PyData.canLay0]; exact h
  | _, _, .lst h a, p => by simp only [D.py, PyData.canLay0]; exact DxAll.lay a (by simpa only [D.plain] using p)
  | _, _, .tup h a, p => by simp only [D.py, PyData.canLay0]; exact DxAll.lay a (by simpa only [D.plain] using p)
  | _, _, .dk _ _ _, p => by simp [D.plain] at p
  | _, _, .dt _ _ _, p => by simp [D.plain] at p
  | _, _, .obj _ _ _, p => by simp [D.plain] at p
theorem DxAll.lay : ∀ {vs : List V} {ds : List D}, DxAll cl F vs ds → plains ds = true → PyData.canLayAll0 (pys ds) = true
  | _, _, .nil, _ => by simp only [pys, PyData.canLayAll0]
  | _, _, .cons h a, p => by
    simp only [plains, Bool.and_eq_true] at p
    simp only [pys, PyData.canLayAll0, Dx.lay h p.1, DxAll.lay a p.2, Bool.and_self]
end
end
def D.shp (d : D) : Bool := d.plain && decide (d.py.depth ≤ 64)
theorem D.shp_plain {d : D} (h : d.shp = true) : d.plain = true := (Bool.and_eq_true_iff.mp h).1
theorem Dx.shaped {F : Hp} {v : V} {d : D} (h : Dx cl F v d) (p : d.shp = true) : SeqAt.shaped d.py = true := by
  unfold D.shp at p
  obtain ⟨p1, p2⟩ := Bool.and_eq_true_iff.mp p
  unfold SeqAt.shaped
  rw [h.lay p1, p2]
  rfl
/-! ### operations -/
def dInt (f : Int → Int → Option D) : D → D → Option D
  | .int i, .int j => f i j
  | _, _ => none
def dAdd : D → D → Option D
  | .int i, .int j => some (.int (i + j))
  | .str x, .str y => if x.length + y.length ≤ 100000 then some (.str (x ++ y)) else none
  | .lst x, .lst y => if x.length + y.length ≤ 100000 then some (.lst (x ++ y)) else none
  | .tup x, .tup y => if x.length + y.length ≤ 100000 then some (.tup (x ++ y)) else none
  | _, _ => none
def dSub : D → D → Option D := dInt fun i j => some (.int (i - j))
def dMod : D → D → Option D := dInt fun i j => if 0 < j then some (.int (i % j)) else none
def dFdiv : D → D → Option D := dInt fun i j => if 0 < j ∧ j.natAbs.log2 < 9000 then some (.int (i / j)) else none
def dPow : D → D → Option D := dInt fun i j => if 0 ≤ j ∧ j ≤ 1000000 ∧ i.natAbs < 2 ^ 64 then some (.int (i ^ j.toNat)) else none
def dMul : D → D → Option D
  | .int i, .int j => if i.natAbs.log2 + j.natAbs.log2 < 1000000 then some (.int (i * j)) else none
  | .lst x, .int j => if 0 ≤ j ∧ j ≤ 100000 ∧ x.length * j.toNat ≤ 100000 then some (.lst (List.replicate j.toNat x).flatten) else none
  | _, _ => none
def dLt : D → D → Option D := dInt fun i j => some (.bl (decide (i < j)))
def dLe : D → D → Option D := dInt fun i j => some (.bl (decide (i ≤ j)))
def dGt : D → D → Option D := dInt fun i j => some (.bl (decide (i > j)))
def dGe : D → D → Option D := dInt fun i j => some (.bl (decide (i ≥ j)))
def dEq (a b : D) : Option D := if a.shp && b.shp then some (.bl (PyData.eqv a.py b.py)) else none
def dNe (a b : D) : Option D := if a.shp && b.shp then some (.bl (!PyData.eqv a.py b.py)) else none
def inD (a : D) : D → Option Bool
  | .str z => match a with
    | .str x => match x.cps.toList with
      | [c] => some (decide (c ∈ z.cps.toList))
      | _ => none
    | _ => none
  | .lst ds => if a.shp && (D.lst ds).shp then some ((pys ds).any fun z => PyData.eqv z a.py) else none
  | _ => none
def dIn (a b : D) : Option D := (inD a b).map D.bl
def dNi (a b : D) : Option D := (inD a b).map fun z => .bl (!z)
def dIsN (a b : D) : Option D := match b with
  | .non => some (.bl (match a with
    | .non => true
    | _ => false))
  | _ => none
def dNotN (a b : D) : Option D := match b with
  | .non => some (.bl (match a with
    | .non => false
    | _ => true))
  | _ => none
def dIx : D → D → Option D
  | .lst xs, .int i => atI xs i
  | .tup xs, .int i => atI xs i
  | .str x, .int i => if x.length ≤ 100000 then (atI x.cps.toList i).map fun c => .str ⟨#[c]⟩ else none
  | _, _ => none
theorem strOk_app {x y : PySem.Str} (h1 : PyData.strOk x = true) (h2 : PyData.strOk y = true) : PyData.strOk (x ++ y) = true := by
  unfold PyData.strOk at *
  show (x.cps ++ y.cps).all _ = true
  rw [Array.all_append, h1, h2]
  rfl
theorem strOk_sign {x : PySem.Str} {c : Nat} (h : PyData.strOk x = true) (hc : c ∈ x.cps.toList) : PyData.strOk ⟨#[c]⟩ = true := by
  unfold PyData.strOk at *
  have z := Array.all_eq_true'.mp h c (by simpa using hc)
  simp only [List.all_toArray, List.all_cons, List.all_nil, Bool.and_true]
  exact z
section
variable {K : PySem.W.Frag}
theorem ox_int {g : Int → Int → V} {f : Int → Int → Option D} {C : Int → Int → Prop} (h : ∀ i j d, f i j = some d → C i j ∧ ∀ F, Dx cl F (g i j) d) : OpX cl (rI C g) (dInt f) := ⟨fun {F H x y dx dy d} e hx hy k Q q => by
  cases hx <;> cases hy <;> first | (cases k; done) | skip
  rename_i i j
  obtain ⟨h1, h2⟩ := h i j d k
  exact ⟨i, j, rfl, rfl, h1, q _ F H (.refl e) (h2 F)⟩⟩
theorem ox_int0 {g : Int → Int → V} {f : Int → Int → Option D} (h : ∀ i j d, f i j = some d → ∀ F, Dx cl F (g i j) d) : OpX cl (rI0 g) (dInt f) := ⟨fun {F H x y dx dy d} e hx hy k Q q => by
  cases hx <;> cases hy <;> first | (cases k; done) | skip
  rename_i i j
  exact ⟨i, j, rfl, rfl, q _ F H (.refl e) (h i j d k F)⟩⟩
instance ox_sub : OpX cl (rI0 fun i j => .int (i - j)) dSub := ox_int0 fun i j d e F => by cases e; exact .int _
instance ox_lt : OpX cl (rI0 fun i j => .bl (decide (i < j))) dLt := ox_int0 fun i j d e F => by cases e; exact .bl _
instance ox_le : OpX cl (rI0 fun i j => .bl (decide (i ≤ j))) dLe := ox_int0 fun i j d e F => by cases e; exact .bl _
instance ox_gt : OpX cl (rI0 fun i j => .bl (decide (i > j))) dGt := ox_int0 fun i j d e F => by cases e; exact .bl _
instance ox_ge : OpX cl (rI0 fun i j => .bl (decide (i ≥ j))) dGe := ox_int0 fun i j d e F => by cases e; exact .bl _
instance ox_mod : OpX cl (rI (fun _ j => 0 < j) fun i j => .int (i % j)) dMod := ox_int fun i j d e => by
  by_cases h : 0 < j
  · rw [if_pos h] at e
    cases e
    exact ⟨h, fun F => .int _⟩
  · rw [if_neg h] at e
    cases e
instance ox_fdiv : OpX cl (rI CDivW fun i j => .int (i / j)) dFdiv := ox_int fun i j d e => by
  by_cases h : 0 < j ∧ j.natAbs.log2 < 9000
  · rw [if_pos h] at e
    cases e
    exact ⟨h, fun F => .int _⟩
  · rw [if_neg h] at e
    cases e
instance ox_pow : OpX cl (rI CPow fun i j => .int (i ^ j.toNat)) dPow := ox_int fun i j d e => by
  by_cases h : 0 ≤ j ∧ j ≤ 1000000 ∧ i.natAbs < 2 ^ 64
  · rw [if_pos h] at e
    cases e
    exact ⟨h, fun F => .int _⟩
  · rw [if_neg h] at e
    cases e
theorem cond_some {α : Type} {c : Prop} [Decidable c] {x y : α} (h : (if c then some x else none) = some y) : c ∧ x = y := by
  by_cases k : c
  · rw [if_pos k] at h
    cases h
    exact ⟨k, rfl⟩
  · rw [if_neg k] at h
    cases h
instance ox_add : OpX cl (U.rAdd K) dAdd := ⟨fun {F H x y dx dy d} e hx hy k Q q => by
  cases hx <;> cases hy <;> first | (cases k; done) | skip
  · rename_i i j
    cases k
    exact .inl ⟨i, j, rfl, rfl, q _ F H (.refl e) (.int _)⟩
  · rename_i i hi j hj
    obtain ⟨h, rfl⟩ := cond_some k
    exact .inr (.inr (.inr ⟨i, j, rfl, rfl, sz_of h, q _ F H (.refl e) (.str _ (strOk_app hi hj))⟩))
  · rename_i a xs ds ha da b ys es hb db
    obtain ⟨h, rfl⟩ := cond_some k
    refine .inr (.inl ⟨a, b, xs, ys, rfl, rfl, e _ _ ha, e _ _ hb, sz_of (by rw [da.length, db.length]; exact h), fun p hp => ?_⟩)
    have st : Step (fun _ => False) F H (upd F p (.lst (xs ++ ys))) (upd H p (.lst (xs ++ ys))) := .new e hp
    exact q _ _ _ st (.lst upd_same ((da.app db).mono st.ex))
  · rename_i a xs ds ha da b ys es hb db
    obtain ⟨h, rfl⟩ := cond_some k
    refine .inr (.inr (.inl ⟨a, b, xs, ys, rfl, rfl, st_of (e _ _ ha), st_of (e _ _ hb), sz_of (by rw [da.length, db.length]; exact h), fun z => ?_, fun z1 z2 => ?_, fun z1 z2 p hp => ?_⟩))
    · subst z
      cases da
      exact q _ _ _ (.refl e) (.tup hb db)
    · subst z2
      cases db
      exact q _ _ _ (.refl e) (by rw [List.append_nil]; exact .tup ha da)
    · have st : Step (fun _ => False) F H (upd F p (.tup (xs ++ ys))) (upd H p (.tup (xs ++ ys))) := .new e hp
      exact q _ _ _ st (.tup upd_same ((da.app db).mono st.ex))⟩
theorem DxAll.flat {F : Hp} {xs : List V} {ds : List D} (h : DxAll cl F xs ds) : ∀ n : Nat, DxAll cl F (List.replicate n xs).flatten (List.replicate n ds).flatten
  | 0 => .nil
  | n + 1 => by
    rw [List.replicate_succ, List.replicate_succ, List.flatten_cons, List.flatten_cons]
    exact h.app (DxAll.flat h n)
instance ox_mul : OpX cl (U.rMul K) dMul := ⟨fun {F H x y dx dy d} e hx hy k Q q => by
  cases hx <;> cases hy <;> first | (cases k; done) | skip
  · rename_i i j
    obtain ⟨h, rfl⟩ := cond_some k
    exact .inl ⟨i, j, rfl, rfl, h, q _ F H (.refl e) (.int _)⟩
  · rename_i a xs ds ha da j
    obtain ⟨⟨h1, h2, h3⟩, rfl⟩ := cond_some k
    refine .inr (.inl ⟨a, j, xs, rfl, rfl, e _ _ ha, by omega, by omega, sz_of ?_, fun p hp => ?_⟩)
    · rw [da.length]
      exact h3
    · have st : Step (fun _ => False) F H (upd F p (.lst (List.replicate j.toNat xs).flatten)) (upd H p (.lst (List.replicate j.toNat xs).flatten)) := .new e hp
      exact q _ _ _ st (.lst upd_same ((da.flat _).mono st.ex))⟩
instance ox_eq : OpX cl (U.rEqU K) dEq := ⟨fun {F H x y dx dy d} e hx hy k Q q => by
  obtain ⟨h, rfl⟩ := cond_some k
  obtain ⟨h1, h2⟩ := Bool.and_eq_true_iff.mp h
  exact .inr ⟨dx.py, dy.py, (hx.mono e).dp (D.shp_plain h1), (hy.mono e).dp (D.shp_plain h2), hx.shaped h1, hy.shaped h2, q _ F H (.refl e) (.bl _)⟩⟩
instance ox_ne : OpX cl (U.rNeU K) dNe := ⟨fun {F H x y dx dy d} e hx hy k Q q => by
  obtain ⟨h, rfl⟩ := cond_some k
  obtain ⟨h1, h2⟩ := Bool.and_eq_true_iff.mp h
  exact .inr ⟨dx.py, dy.py, (hx.mono e).dp (D.shp_plain h1), (hy.mono e).dp (D.shp_plain h2), hx.shaped h1, hy.shaped h2, q _ F H (.refl e) (.bl _)⟩⟩
theorem one_sign {x : PySem.Str} {c : Nat} (h : x.cps.toList = [c]) : x = ⟨#[c]⟩ := by
  obtain ⟨a⟩ := x
  have : a = #[c] := by
    apply Array.toList_inj.mp
    exact h
  rw [this]
theorem in_run {F H : Hp} {x y : V} {dx dy : D} {b : Bool} (e : Ex F H) (hx : Dx cl F x dx) (hy : Dx cl F y dy) (k : inD dx dy = some b) :
    (∃ (c : Nat) (z : PySem.Str), x = .str ⟨#[c]⟩ ∧ y = .str z ∧ decide (c ∈ z.cps.toList) = b) ∨ ∃ d ds, Dp K H x d ∧ Dp K H y (.list ds) ∧ SeqAt.shaped d = true ∧ SeqAt.shaped (.list ds) = true ∧ (ds.any fun z => PyData.eqv z d) = b := by
  cases hy with
  | str z hz =>
    cases hx with
    | str x hx =>
      simp only [inD] at k
      split at k
      · rename_i c hc
        cases k
        exact .inl ⟨c, z, by rw [one_sign hc], rfl, rfl⟩
      · cases k
    | _ => cases k
  | @lst a xs ds ha da =>
    obtain ⟨h, rfl⟩ := cond_some k
    obtain ⟨h1, h2⟩ := Bool.and_eq_true_iff.mp h
    have hl : Dx cl F (.ref a) (.lst ds) := .lst ha da
    have p2 := (hl.mono e).dp (K := K) (D.shp_plain h2)
    have s2 := hl.shaped h2
    simp only [D.py] at p2 s2
    exact .inr ⟨dx.py, pys ds, (hx.mono e).dp (D.shp_plain h1), p2, hx.shaped h1, s2, rfl⟩
  | _ => cases k
instance ox_in : OpX cl (U.rInU K) dIn := ⟨fun {F H x y dx dy d} e hx hy k Q q => by
  obtain ⟨b, k1, rfl⟩ := Option.map_eq_some_iff.mp k
  rcases in_run (K := K) e hx hy k1 with ⟨c, z, rfl, rfl, rfl⟩ | ⟨d, ds, h1, h2, h3, h4, rfl⟩
  · exact .inl ⟨c, z, rfl, rfl, q _ F H (.refl e) (.bl _)⟩
  · exact .inr (.inl ⟨d, ds, h1, h2, h3, h4, q _ F H (.refl e) (.bl _)⟩)⟩
instance ox_ni : OpX cl (U.rNiU K) dNi := ⟨fun {F H x y dx dy d} e hx hy k Q q => by
  obtain ⟨b, k1, rfl⟩ := Option.map_eq_some_iff.mp k
  rcases in_run (K := K) e hx hy k1 with ⟨c, z, rfl, rfl, rfl⟩ | ⟨d, ds, h1, h2, h3, h4, rfl⟩
  · exact .inl ⟨c, z, rfl, rfl, q _ F H (.refl e) (.bl _)⟩
  · exact .inr (.inl ⟨d, ds, h1, h2, h3, h4, q _ F H (.refl e) (.bl _)⟩)⟩
theorem atI_map {α β : Type} {xs : List α} {ys : List β} (h : xs.length = ys.length) {i : Int} {b : β} (e : atI ys i = some b) : ∃ j, ixN xs.length i = some j ∧ ys[j]? = some b := by
  unfold atI at e
  obtain ⟨j, e1, e2⟩ := bind_some e
  exact ⟨j, by rw [h]; exact e1, e2⟩
instance ox_ix : OpX cl (U.rIxU K) dIx := ⟨fun {F H x y dx dy d} e hx hy k Q q => by
  cases hx <;> cases hy <;> first | (cases k; done) | skip
  · rename_i x hs i
    obtain ⟨h, k⟩ : x.length ≤ 100000 ∧ (atI x.cps.toList i).map (fun c => D.str ⟨#[c]⟩) = some d := by
      simp only [dIx] at k
      by_cases h : x.length ≤ 100000
      · rw [if_pos h] at k
        exact ⟨h, k⟩
      · rw [if_neg h] at k
        cases k
    obtain ⟨c, k1, rfl⟩ := Option.map_eq_some_iff.mp k
    have hc : c ∈ x.cps.toList := by
      unfold atI at k1
      obtain ⟨j, _, e2⟩ := bind_some k1
      exact List.mem_of_getElem? e2
    exact .inr (.inr ⟨x, i, c, rfl, rfl, sz_of h, k1, q _ F H (.refl e) (.str _ (strOk_sign hs hc))⟩)
  · rename_i a xs ds ha da i
    obtain ⟨j, k1, k2⟩ := atI_map da.length k
    obtain ⟨v, v1, v2⟩ := da.get k2
    exact .inl ⟨a, xs, i, v, rfl, rfl, sq_of (e _ _ ha), by unfold atI; rw [k1]; exact v1, q _ F H (.refl e) v2⟩
  · rename_i a xs ds ha da i
    obtain ⟨j, k1, k2⟩ := atI_map da.length k
    obtain ⟨v, v1, v2⟩ := da.get k2
    exact .inr (.inl ⟨a, xs, i, v, rfl, rfl, st_of (e _ _ ha), by unfold atI; rw [k1]; exact v1, q _ F H (.refl e) v2⟩)⟩
end
end Fr

set_option Elab.async false
set_option linter.all false
set_option maxRecDepth 100000
set_option maxHeartbeats 2000000
namespace Fr
open PySem PySem.Spec PyProof.Rows L2 Evl
variable {cl : PySem.Str → Addr}
/-! ### built-in calls -/
def dLen : List D → Option D
  | [.str x] => if x.length ≤ 100000 then some (.int x.length) else none
  | [.lst xs] => some (.int xs.length)
  | [.tup xs] => some (.int xs.length)
  | _ => none
def dMax2 : List D → Option D
  | [.int i, .int j] => some (.int (if j > i then j else i))
  | _ => none
def dMin2 : List D → Option D
  | [.int i, .int j] => some (.int (if j < i then j else i))
  | _ => none
def intsOf : List D → Option (List Int)
  | [] => some []
  | .int i :: r => (intsOf r).map fun l => i :: l
  | _ => none
def dSum : List D → Option D
  | [.lst xs] => (intsOf xs).map fun l => .int l.sum
  | _ => none
def mStr (x : PySem.Str) : M := fun s => if PyData.strOk x = true then some (.str x, s) else none
instance i_strc {x : PySem.Str} : EvX cl (tC (.str x)) (mStr x) := ⟨fun {F H σ s ad d s'} k e Q q => by
  obtain ⟨h, e⟩ := cond_some e
  cases e
  exact q _ F H (.refl k) (.str x h)⟩
theorem zip_len {α β : Type} {a : List α} {b : List β} (h : a.length = b.length) : (a.zip b).length = a.length := by
  rw [List.length_zip]
  omega
section
variable {K : PySem.W.Frag}
instance ca_len : CaX cl (U.rLenU K) dLen := ⟨fun {F H xs ds d} e h k Q q => by
  cases h with
  | nil => cases k
  | cons h1 h2 =>
    cases h2 with
    | cons h3 h4 => cases h1 <;> cases k
    | nil =>
      cases h1 <;> first | (cases k; done) | skip
      · rename_i x hx
        obtain ⟨h, rfl⟩ := cond_some k
        exact .inr (.inl ⟨x, rfl, sz_of h, q _ F H (.refl e) (.int _)⟩)
      · rename_i a xs ds ha da
        cases k
        exact .inl ⟨a, xs, rfl, .inl (sq_of (e _ _ ha)), by rw [da.length]; exact q _ F H (.refl e) (.int _)⟩
      · rename_i a xs ds ha da
        cases k
        exact .inl ⟨a, xs, rfl, .inr (st_of (e _ _ ha)), by rw [da.length]; exact q _ F H (.refl e) (.int _)⟩⟩
instance ca_max : CaX cl (fun xs H Q => ∃ i j : Int, xs = [V.int i, V.int j] ∧ Q (.int (if j > i then j else i)) H) dMax2 := ⟨fun {F H xs ds d} e h k Q q => by
  unfold dMax2 at k
  split at k
  · cases k
    cases h with
    | cons h1 h2 =>
      cases h2 with
      | cons h3 h4 =>
        cases h4
        cases h1
        cases h3
        exact ⟨_, _, rfl, q _ F H (.refl e) (.int _)⟩
  · cases k⟩
theorem ints_dx {F : Hp} : ∀ {xs : List V} {ds : List D} {l : List Int}, DxAll cl F xs ds → intsOf ds = some l → xs = l.map V.int
  | _, [], l, h, e => by
    cases h
    cases e
    rfl
  | _, d :: ds, l, h, e => by
    cases h with
    | cons h1 h2 =>
      cases h1 <;> first | (cases e; done) | skip
      obtain ⟨l2, e1, rfl⟩ := Option.map_eq_some_iff.mp e
      rw [ints_dx h2 e1]
      rfl
instance ca_sum : CaX cl (rSum K) dSum := ⟨fun {F H xs ds d} e h k Q q => by
  unfold dSum at k
  split at k
  · obtain ⟨l, k1, rfl⟩ := Option.map_eq_some_iff.mp k
    cases h with
    | cons h1 h2 =>
      cases h2
      cases h1 with
      | lst ha da =>
        have z := ints_dx da k1
        subst z
        exact ⟨_, l, rfl, sq_of (e _ _ ha), q _ F H (.refl e) (.int _)⟩
  · cases k⟩
/-! isinstance, of a built-in type -/
def D.tyn : D → Option String
  | .non => some "NoneType"
  | .bl _ => some "bool"
  | .int _ => some "int"
  | .str _ => some "str"
  | .lst _ => some "list"
  | .tup _ => some "tuple"
  | .dk _ _ => some "dict"
  | .dt _ _ => none
  | .obj _ _ _ => none
theorem Dx.ty {F H : Hp} {v : V} {d : D} {t : String} (h : Dx cl F v d) (e : Ex F H) (k : d.tyn = some t) : TyX K H v (.type t) := by
  cases h with
  | non => cases k; exact .base .non
  | bl b => cases k; exact .base (.bl _)
  | int i => cases k; exact .base (.int _)
  | str x h => cases k; exact .base (.str _)
  | lst h _ => cases k; exact .base (.lst (e _ _ h))
  | tup h _ => cases k; exact .base (.tup (e _ _ h))
  | dk h _ _ => cases k; exact .fDict (e _ _ h)
  | dt h _ _ => cases k
  | obj h _ _ => cases k
def mIsT (n : String) (a : M) : M := fun s => (a s).bind fun p => p.1.tyn.bind fun t => (kitB t n).map fun b => (.bl b, p.2)
instance i_isT {n : String} {ta : TE} {ma : M} [A : EvX cl ta ma] : EvX cl (tCB (U.rIsU K) (tCons ta (tCons (tC (.ty n)) tNil))) (mIsT n ma) := ⟨fun {F H σ s ad d s'} k e Q q => by
  obtain ⟨p, e1, e⟩ := bind_some e
  obtain ⟨t, e2, e⟩ := bind_some e
  obtain ⟨b, e3, e⟩ := Option.map_eq_some_iff.mp e
  cases e
  exact A.run k e1 _ fun v F1 H1 x1 h1 => .inr ⟨v, .ty n, .type t, .type n, b, rfl, .ty _, h1.ty x1.ok.ex e2, kit_ty e3, q _ _ _ x1 (.bl b)⟩⟩
end
/-! ### a def of data: its promise -/
/-- Φ: what the def tells of its arguments' data -/
def spD (cl : PySem.Str → Addr) (np : Nat) (Φ : List D → Option D) : Sp := fun vs H Q _ => vs.length = np ∧ ∃ F ds d, Ex F H ∧ DxAll cl F vs ds ∧ Φ ds = some d ∧ ∀ v F' H', Step (fun _ => False) F H F' H' → Dx cl F' v d → Q v H'
def mCall (np : Nat) (Φ : List D → Option D) (a : MA) : M := fun s => (a s).bind fun p => if p.1.length = np then (Φ p.1).map fun d => (d, p.2) else none
instance i_call {np : Nat} {Φ : List D → Option D} {E : XK} {t : TA} {mt : MA} [A : EvA cl t mt] : EvX cl (tCall (spD cl np Φ) [] E t) (mCall np Φ mt) := ⟨fun {F H σ s ad d s'} k e Q q => by
  obtain ⟨p, e1, e⟩ := bind_some e
  by_cases hl : p.1.length = np
  · rw [if_pos hl] at e
    obtain ⟨d1, e3, e⟩ := Option.map_eq_some_iff.mp e
    cases e
    refine A.run k e1 _ fun vs F1 H1 x1 h1 => ⟨by rw [List.append_nil, h1.length]; exact hl, F1, p.1, _, x1.ok.ex, by rw [List.append_nil]; exact h1, e3, fun z F3 H3 x3 h3 => q z F3 H3 (x1.trans (.step0 x1.ok x3)) h3⟩
  · rw [if_neg hl] at e
    cases e⟩
/-! ### statements -/
inductive Out where
  | nx | ret (d : D) | brk | cnt
abbrev MS := S → Option (Out × S)
def Post (cl : PySem.Str → Addr) (F H : Hp) (s : S) (ad : Nat → Addr) (E : Ends) (s' : S) : Out → Prop
  | .nx => ∀ F' H' σ' ad', Po cl F H s ad F' H' σ' s' ad' → E.nx σ' H'
  | .ret d => ∀ v F' H' σ' ad', Po cl F H s ad F' H' σ' s' ad' → Dx cl F' v d → E.rt v H'
  | .brk => ∀ F' H' σ' ad', Po cl F H s ad F' H' σ' s' ad' → E.bk σ' H'
  | .cnt => ∀ F' H' σ' ad', Po cl F H s ad F' H' σ' s' ad' → E.ct σ' H'
class EvS (cl : PySem.Str → Addr) (t : TS) (m : MS) : Prop where
  run : ∀ {F H : Hp} {σ : L2.St} {s : S} {ad : Nat → Addr} {o : Out} {s' : S}, Ok cl F H σ s ad → m s = some (o, s') → ∀ E : Ends, Post cl F H s ad E s' o → t E σ H
theorem Post.after {F H F1 H1 : Hp} {s s1 s' : S} {ad ad1 : Nat → Addr} {σ1 : L2.St} {E : Ends} (x : Po cl F H s ad F1 H1 σ1 s1 ad1) : ∀ {o : Out}, Post cl F H s ad E s' o → Post cl F1 H1 s1 ad1 E s' o
  | .nx, h => fun F' H' σ' ad' y => h F' H' σ' ad' (x.trans y)
  | .ret d, h => fun v F' H' σ' ad' y => h v F' H' σ' ad' (x.trans y)
  | .brk, h => fun F' H' σ' ad' y => h F' H' σ' ad' (x.trans y)
  | .cnt, h => fun F' H' σ' ad' y => h F' H' σ' ad' (x.trans y)
def mSkip : MS := fun s => some (.nx, s)
def mSeq (a b : MS) : MS := fun s => (a s).bind fun p => match p.1 with
  | .nx => b p.2
  | o => some (o, p.2)
def mRet (a : M) : MS := fun s => (a s).map fun p => (.ret p.1, p.2)
def mRetN : MS := fun s => some (.ret .non, s)
def mDrop (a : M) : MS := fun s => (a s).map fun p => (.nx, p.2)
def mIfS (t : MT) (a b : MS) : MS := fun s => (t s).bind fun p => if p.1 = true then a p.2 else b p.2
def setOk (s : S) (i : Nat) : Bool := match s[i]? with
  | some (.pm _) => false
  | some _ => true
  | none => false
def mSet (i : Nat) (a : M) : MS := fun s => (a s).bind fun p => if setOk p.2 i = true then some (.nx, p.2.set i (.fz p.1)) else none
def mSetO (i : Nat) (a : M) : MS := fun s => (a s).bind fun p => if setOk p.2 i = true then some (.nx, p.2.set i (.ow p.1)) else none
section
variable {F H F' H' : Hp} {σ : L2.St} {s : S} {ad : Nat → Addr} {i : Nat} {v : V} {d : D} {p : Addr}
theorem setOk_lt (h : setOk s i = true) : i < s.length := by
  unfold setOk at h
  cases e : s[i]? with
  | none =>
    rw [e] at h
    cases h
  | some l => exact (List.getElem?_eq_some_iff.mp e).1
theorem get_set {α : Type} {l : List α} {i j : Nat} {a b : α} (h : (l.set i a)[j]? = some b) : (j = i ∧ b = a) ∨ (j ≠ i ∧ l[j]? = some b) := by
  by_cases e : j = i
  · subst e
    refine .inl ⟨rfl, ?_⟩
    rw [List.getElem?_set_self'] at h
    cases z : l[j]? with
    | none =>
      rw [z] at h
      cases h
    | some c =>
      rw [z] at h
      exact (Option.some.inj h).symm
  · refine .inr ⟨e, ?_⟩
    rwa [List.getElem?_set_ne (Ne.symm e)] at h
/-- a slot is set: a datum; a thing just made -/
theorem Ok.set (k : Ok cl F H σ s ad) (hi : setOk s i = true) (h : Dx cl F v d) : Po cl F H s ad F H (σ.set i (some v)) (s.set i (.fz d)) ad := by
  have li := setOk_lt hi
  refine ⟨.refl k.ex, ⟨k.ex, by rw [List.length_set, List.length_set]; exact k.len, fun j e g => ?_, fun j l e g c => ?_, fun j j2 l m e e2 g c g2 c2 ne => ?_, fun j e g => ?_⟩, fun a o => ?_, fun j e g => ?_⟩
  · rcases get_set g with ⟨rfl, z⟩ | ⟨z1, z2⟩
    · cases z
      exact ⟨v, by rw [List.getElem?_set_self (by rw [k.len]; exact li)], h⟩
    · obtain ⟨u, u1, u2⟩ := k.fz j e z2
      exact ⟨u, by rw [List.getElem?_set_ne (Ne.symm z1)]; exact u1, u2⟩
  · rcases get_set g with ⟨rfl, z⟩ | ⟨z1, z2⟩
    · subst z
      cases c
    · obtain ⟨u1, u2, u3⟩ := k.ow j l e z2 c
      exact ⟨by rw [List.getElem?_set_ne (Ne.symm z1)]; exact u1, u2, u3⟩
  · rcases get_set g with ⟨rfl, z⟩ | ⟨z1, z2⟩
    · subst z
      cases c
    · rcases get_set g2 with ⟨rfl, z⟩ | ⟨y1, y2⟩
      · subst z
        cases c2
      · exact k.ne j j2 l m e e2 z2 c y2 c2 ne
  · rcases get_set g with ⟨rfl, z⟩ | ⟨z1, z2⟩
    · cases z
    · obtain ⟨u1, u2, u3⟩ := k.rb j e z2
      exact ⟨by rw [List.getElem?_set_ne (Ne.symm z1)]; exact u1, u2, u3⟩
  · obtain ⟨j, l, e, g, c, rfl⟩ := o
    rcases get_set g with ⟨rfl, z⟩ | ⟨z1, z2⟩
    · subst z
      cases c
    · exact .inl ⟨j, l, e, z2, c, rfl⟩
  · have ne : j ≠ i := fun z => by
      subst z
      unfold setOk at hi
      rw [g] at hi
      cases hi
    exact ⟨rfl, e, by rw [List.getElem?_set_ne (Ne.symm ne)]; exact g⟩
theorem Ok.setO (k : Ok cl F H σ s ad) (hi : setOk s i = true) (hF : F p = none) (np : ∀ a, own s ad a → a ≠ p) (h : Cell cl F (H p) d) : Ok cl F H (σ.set i (some (.ref p))) (s.set i (.ow d)) (fun j => if j = i then p else ad j) := by
  have li := setOk_lt hi
  refine ⟨k.ex, by rw [List.length_set, List.length_set]; exact k.len, fun j e g => ?_, fun j l e g c => ?_, fun j j2 l m e e2 g c g2 c2 ne => ?_, fun j e g => ?_⟩
  · rcases get_set g with ⟨rfl, z⟩ | ⟨z1, z2⟩
    · cases z
    · obtain ⟨u, u1, u2⟩ := k.fz j e z2
      exact ⟨u, by rw [List.getElem?_set_ne (Ne.symm z1)]; exact u1, u2⟩
  · rcases get_set g with ⟨rfl, z⟩ | ⟨z1, z2⟩
    · subst z
      cases c
      rw [if_pos rfl]
      exact ⟨by rw [List.getElem?_set_self (by rw [k.len]; exact li)], hF, h⟩
    · obtain ⟨u1, u2, u3⟩ := k.ow j l e z2 c
      rw [if_neg z1]
      exact ⟨by rw [List.getElem?_set_ne (Ne.symm z1)]; exact u1, u2, u3⟩
  · rcases get_set g with ⟨rfl, z⟩ | ⟨z1, z2⟩
    · rcases get_set g2 with ⟨rfl, z⟩ | ⟨y1, y2⟩
      · exact absurd rfl ne
      · rw [if_pos rfl, if_neg y1]
        exact (np _ ⟨j2, m, e2, y2, c2, rfl⟩).symm
    · rcases get_set g2 with ⟨rfl, z⟩ | ⟨y1, y2⟩
      · rw [if_pos rfl, if_neg z1]
        exact np _ ⟨j, l, e, z2, c, rfl⟩
      · rw [if_neg z1, if_neg y1]
        exact k.ne j j2 l m e e2 z2 c y2 c2 ne
  · rcases get_set g with ⟨rfl, z⟩ | ⟨z1, z2⟩
    · cases z
    · obtain ⟨u1, u2, u3⟩ := k.rb j e z2
      rw [if_neg z1]
      exact ⟨by rw [List.getElem?_set_ne (Ne.symm z1)]; exact u1, u2, u3⟩
end
section
variable {t u : TS} {a b : MS} {te : TE} {m : M}
instance s_next : EvS cl tNext mSkip := ⟨fun {F H σ s ad o s'} k e E q => by
  cases e
  exact q F H σ ad (.refl k)⟩
instance s_seq [A : EvS cl t a] [B : EvS cl u b] : EvS cl (tSeq t u) (mSeq a b) := ⟨fun {F H σ s ad o s'} k e E q => by
  obtain ⟨⟨o1, s1⟩, e1, e⟩ := bind_some e
  refine A.run k e1 _ ?_
  cases o1 with
  | nx => exact fun F1 H1 σ1 ad1 x1 => B.run x1.ok e E (q.after x1)
  | ret d =>
    cases e
    exact q
  | brk =>
    cases e
    exact q
  | cnt =>
    cases e
    exact q⟩
instance s_ret [A : EvX cl te m] : EvS cl (tRet te) (mRet m) := ⟨fun {F H σ s ad o s'} k e E q => by
  obtain ⟨p, e1, e⟩ := Option.map_eq_some_iff.mp e
  cases e
  exact A.run k e1 _ fun v F1 H1 x1 h1 => q v F1 H1 σ ad x1 h1⟩
instance s_drop [A : EvX cl te m] : EvS cl (tDrop te) (mDrop m) := ⟨fun {F H σ s ad o s'} k e E q => by
  obtain ⟨p, e1, e⟩ := Option.map_eq_some_iff.mp e
  cases e
  exact A.run k e1 _ fun v F1 H1 x1 h1 => q F1 H1 σ ad x1⟩
instance s_if {tt : TT} {mt : MT} [T : EvT cl tt mt] [A : EvS cl t a] [B : EvS cl u b] : EvS cl (tIfS tt t u) (mIfS mt a b) := ⟨fun {F H σ s ad o s'} k e E q => by
  obtain ⟨⟨c, s1⟩, e1, e⟩ := bind_some e
  refine T.run k e1 _ fun F1 H1 x1 => ?_
  cases c with
  | true =>
    show t E σ H1
    exact A.run x1.ok (by simpa using e) E (q.after x1)
  | false =>
    show u E σ H1
    exact B.run x1.ok (by simpa using e) E (q.after x1)⟩
instance s_set {i : Nat} [A : EvX cl te m] : EvS cl (tAsg te (gName i)) (mSet i m) := ⟨fun {F H σ s ad o s'} k e E q => by
  obtain ⟨⟨d, s1⟩, e1, e⟩ := bind_some e
  obtain ⟨hi, e⟩ := cond_some e
  cases e
  exact A.run k e1 _ fun v F1 H1 x1 h1 => q F1 H1 _ ad (x1.trans (x1.ok.set hi h1))⟩
instance s_setO {i : Nat} [A : EvN cl te m] : EvS cl (tAsg te (gName i)) (mSetO i m) := ⟨fun {F H σ s ad o s'} k e E q => by
  obtain ⟨⟨d, s1⟩, e1, e⟩ := bind_some e
  obtain ⟨hi, e⟩ := cond_some e
  cases e
  refine A.run k e1 _ fun p F1 H1 hn f1 np x1 c1 => q F1 H1 _ _ ⟨x1.step, x1.ok.setO hi f1 np c1, fun a' o => ?_, fun j e' g => ?_⟩
  · obtain ⟨j, l, e', g, c, rfl⟩ := o
    rcases get_set g with ⟨rfl, z⟩ | ⟨z1, z2⟩
    · dsimp only
      rw [if_pos rfl]
      exact .inr hn
    · dsimp only
      rw [if_neg z1]
      exact x1.sub _ ⟨j, l, e', z2, c, rfl⟩
  · obtain ⟨g1, d1, g2⟩ := x1.pms j e' g
    have ne : j ≠ i := fun z => by
      subst z
      have hi2 : setOk s1 j = true := hi
      unfold setOk at hi2
      rw [g2] at hi2
      cases hi2
    dsimp only
    rw [if_neg ne]
    exact ⟨g1, d1, by rw [List.getElem?_set_ne (Ne.symm ne)]; exact g2⟩⟩
end
end Fr

set_option Elab.async false
set_option linter.all false
set_option maxRecDepth 100000
set_option maxHeartbeats 2000000
namespace Fr
open PySem PySem.Spec PyProof.Rows L2 Evl
variable {cl : PySem.Str → Addr}
/-! ### own things changed -/
def reCell : Sl → D → Sl
  | .ow _, d => .ow d
  | .pm _, d => .pm d
  | l, _ => l
theorem reCell_cell {l : Sl} {d e : D} (h : l.cell = some d) : (reCell l e).cell = some e := by
  cases l with
  | no => cases h
  | fz x => cases h
  | ow x => rfl
  | pm x => rfl
  | rb x => cases h
section
variable {F H : Hp} {σ : L2.St} {s : S} {ad : Nat → Addr} {i : Nat} {l : Sl} {d e : D} {o : HO}
theorem own_set {a : Addr} (hl : s[i]? = some l) (hc : l.cell = some d) (h : own (s.set i (reCell l e)) ad a) : own s ad a := by
  obtain ⟨j, m, f, g, c, rfl⟩ := h
  rcases get_set g with ⟨rfl, z⟩ | ⟨z1, z2⟩
  · exact ⟨j, l, d, hl, hc, rfl⟩
  · exact ⟨j, m, f, z2, c, rfl⟩
theorem Ok.write (k : Ok cl F H σ s ad) (hl : s[i]? = some l) (hc : l.cell = some d) (h : Cell cl F (some o) e) : Po cl F H s ad F (upd H (ad i) o) σ (s.set i (reCell l e)) ad := by
  obtain ⟨k1, k2, k3⟩ := k.ow i l d hl hc
  have st : Step (own s ad) F H F (upd H (ad i) o) := .write k.ex ⟨i, l, d, hl, hc, rfl⟩ k2
  refine ⟨st, ⟨st.exH, by rw [List.length_set]; exact k.len, fun j f g => ?_, fun j m f g c => ?_, fun j j2 m m2 f f2 g c g2 c2 ne => ?_, fun j f g => ?_⟩, fun a z => .inl (own_set hl hc z), fun j f g => ?_⟩
  · rcases get_set g with ⟨rfl, z⟩ | ⟨z1, z2⟩
    · cases l <;> first | (cases z; done) | (cases hc; done)
    · exact k.fz j f z2
  · rcases get_set g with ⟨rfl, z⟩ | ⟨z1, z2⟩
    · subst z
      rw [reCell_cell hc] at c
      cases c
      rw [upd_same]
      exact ⟨k1, k2, h⟩
    · obtain ⟨u1, u2, u3⟩ := k.ow j m f z2 c
      rw [upd_ne (k.ne j i m l f d z2 c hl hc z1)]
      exact ⟨u1, u2, u3⟩
  · rcases get_set g with ⟨rfl, z⟩ | ⟨z1, z2⟩
    · rcases get_set g2 with ⟨rfl, y⟩ | ⟨y1, y2⟩
      · exact absurd rfl ne
      · exact k.ne j j2 l m2 d f2 hl hc y2 c2 ne
    · rcases get_set g2 with ⟨rfl, y⟩ | ⟨y1, y2⟩
      · exact k.ne j j2 m l f d z2 c hl hc ne
      · exact k.ne j j2 m m2 f f2 z2 c y2 c2 ne
  · rcases get_set g with ⟨rfl, z⟩ | ⟨z1, z2⟩
    · cases l <;> first | (cases z; done) | (cases hc; done)
    · obtain ⟨u1, u2, u3⟩ := k.rb j f z2
      rw [upd_ne (rb_own (o := none) u3 k3)]
      exact ⟨u1, u2, u3⟩
  · refine ⟨rfl, ?_⟩
    by_cases z : j = i
    · subst z
      rw [hl] at g
      cases g
      exact ⟨e, by rw [List.getElem?_set_self (List.getElem?_eq_some_iff.mp hl).1]; rfl⟩
    · exact ⟨f, by rw [List.getElem?_set_ne (Ne.symm z)]; exact g⟩
end
def cellAt (s : S) (i : Nat) : Option D := (s[i]?).bind Sl.cell
def setCell (s : S) (i : Nat) (d : D) : S := match s[i]? with
  | some l => s.set i (reCell l d)
  | none => s
theorem cellAt_some {s : S} {i : Nat} {d : D} (h : cellAt s i = some d) : ∃ l, s[i]? = some l ∧ l.cell = some d := bind_some h
theorem setCell_eq {s : S} {i : Nat} {d : D} {l : Sl} (h : s[i]? = some l) : setCell s i d = s.set i (reCell l d) := by
  unfold setCell
  rw [h]
/-- xs.append(e), xs own -/
def mApp (i : Nat) (a : M) : MS := fun s => match cellAt s i with
  | some (.lst _) => (a s).bind fun p => match cellAt p.2 i with
    | some (.lst ds) => if ds.length < 100000 then some (.nx, setCell p.2 i (.lst (ds ++ [p.1]))) else none
    | _ => none
  | _ => none
instance s_app {K : PySem.W.Frag} {i : Nat} {te : TE} {m : M} [A : EvX cl te m] : EvS cl (tDrop (tBM K "list" rAppend (tVar i) (tCons te tNil))) (mApp i m) := ⟨fun {F H σ s ad o s'} k e E q => by
  unfold mApp at e
  split at e
  · rename_i ds0 h0
    obtain ⟨⟨d, s1⟩, e1, e⟩ := bind_some e
    dsimp only at e
    split at e
    · rename_i ds h1
      obtain ⟨hz, e⟩ := cond_some e
      cases e
      obtain ⟨l0, hl0, hc0⟩ := cellAt_some h0
      obtain ⟨l1, hl1, hc1⟩ := cellAt_some h1
      obtain ⟨k1, k2, xs0, k3, k4⟩ := k.ow i l0 _ hl0 hc0
      refine ⟨_, k1, .inl ⟨rfl, xs0, sq_of k3⟩, A.run k e1 _ fun v F1 H1 x1 h1 => ?_⟩
      obtain ⟨g1, g2, xs, g3, g4⟩ := x1.ok.ow i l1 _ hl1 hc1
      refine ⟨ad i, xs, v, rfl, rfl, g3, sz_lt (by rw [g4.length]; exact hz), ?_⟩
      have w := x1.ok.write hl1 hc1 (o := .lst (xs ++ [v])) (e := .lst (ds ++ [d])) ⟨_, rfl, g4.app (.cons h1 .nil)⟩
      rw [setCell_eq hl1] at q
      exact q _ _ _ _ (x1.trans w)
    · cases e
  · cases e⟩
/-! ### what is walked, and into what -/
class ItX (cl : PySem.Str → Addr) (wi : TI) (m : MA) : Prop where
  run : ∀ {F H : Hp} {σ : L2.St} {s : S} {ad : Nat → Addr} {ds : List D} {s' : S}, Ok cl F H σ s ad → m s = some (ds, s') → ∀ R : It → Hp → Prop,
    (∀ (F' H' : Hp) (J : It) (G : Hp → Prop) (Y : Nat → Hp → V → Hp → Prop), Po cl F H s ad F' H' σ s' ad → Walk J ds.length G Y → (∀ F1 H1, Kp F' H' F1 H1 → G H1) →
      (∀ i d F1 H1 x H2, ds[i]? = some d → Kp F' H' F1 H1 → Y i H1 x H2 → ∃ F2, Step (fun _ => False) F1 H1 F2 H2 ∧ Dx cl F2 x d) → R J H') → wi σ H R
def Apart (js : List Nat) (σ σ' : L2.St) : Prop := σ'.length = σ.length ∧ ∀ j, j ∉ js → σ'[j]? = σ[j]?
theorem Apart.trans {js ks : List Nat} {a b c : L2.St} (x : Apart js a b) (y : Apart ks b c) : Apart (js ++ ks) a c :=
  ⟨y.1.trans x.1, fun j h => (y.2 j fun z => h (List.mem_append_right _ z)).trans (x.2 j fun z => h (List.mem_append_left _ z))⟩
class TgX (cl : PySem.Str → Addr) (g : TG) (f : D → S → Option S) (js : outParam (List Nat)) : Prop where
  run : ∀ {F H : Hp} {σ : L2.St} {s : S} {ad : Nat → Addr} {v : V} {d : D} {s' : S}, Ok cl F H σ s ad → Dx cl F v d → f d s = some s' → ∀ R : L2.St → Hp → Prop, (∀ σ', Apart js σ σ' → Po cl F H s ad F H σ' s' ad → R σ' H) → g v σ H R
def tgN (i : Nat) : D → S → Option S := fun d s => if setOk s i = true then some (s.set i (.fz d)) else none
instance tg_name {i : Nat} : TgX cl (gName i) (tgN i) [i] := ⟨fun {F H σ s ad v d s'} k h e R q => by
  obtain ⟨hi, rfl⟩ := cond_some e
  refine q _ ⟨List.length_set, fun j hj => ?_⟩ (k.set hi h)
  rw [List.getElem?_set_ne]
  intro z
  exact hj (z ▸ List.mem_singleton_self i)⟩
def tg2 (f g : D → S → Option S) : D → S → Option S := fun d s => match d with
  | .tup [a, b] => (f a s).bind fun s1 => g b s1
  | _ => none
instance tg_two {K : PySem.W.Frag} {g1 g2 : TG} {f1 f2 : D → S → Option S} {j1 j2 : List Nat} [A : TgX cl g1 f1 j1] [B : TgX cl g2 f2 j2] : TgX cl (gTup K 2 (gCons g1 (gCons g2 gNil))) (tg2 f1 f2) (j1 ++ j2) := ⟨fun {F H σ s ad v d s'} k h e R q => by
  unfold tg2 at e
  split at e
  · rename_i da db
    obtain ⟨s1, e1, e2⟩ := bind_some e
    cases h with
    | tup ha dd =>
      cases dd with
      | cons h1 dd =>
        cases dd with
        | cons h2 dd =>
          cases dd
          refine ⟨_, _, rfl, st_of (k.ex _ _ ha), rfl, _, _, rfl, A.run k h1 e1 _ fun σ1 a1 x1 => ⟨_, _, rfl, B.run x1.ok h2 e2 _ fun σ2 a2 x2 => ⟨rfl, q _ (a1.trans a2) (x1.trans x2)⟩⟩⟩
  · cases e⟩
def D.items : D → Option (List D)
  | .lst ds => some ds
  | .tup ds => some ds
  | _ => none
def itS (a : M) : MA := fun s => (a s).bind fun p => p.1.items.map fun ds => (ds, p.2)
instance it_seq {K : PySem.W.Frag} {tl : TE} {m : M} [A : EvX cl tl m] : ItX cl (U.iSeq K tl) (itS m) := ⟨fun {F H σ s ad ds s'} k e R q => by
  obtain ⟨⟨d, s1⟩, e1, e⟩ := bind_some e
  obtain ⟨ds1, e2, e⟩ := Option.map_eq_some_iff.mp e
  cases e
  cases d with
  | lst l =>
    cases e2
    refine .inl (A.run k e1 _ fun v F1 H1 x1 h1 => ?_)
    cases h1 with
    | @lst a xs _ ha da =>
      have w := walk_list (K := K) (a := a) (xs := xs)
      rw [da.length] at w
      refine ⟨a, rfl, ⟨xs, sq_of (x1.ok.ex _ _ ha)⟩, q F1 H1 _ _ _ x1 w (fun F2 H2 y1 => sq_of (y1.2.1 _ _ (y1.1 _ _ ha))) fun i d F2 H2 x H3 hd y1 y => ?_⟩
      obtain ⟨rfl, hx⟩ := y
      obtain ⟨d', hd', hx'⟩ := da.getV hx
      rw [hd] at hd'
      cases hd'
      exact ⟨F2, .refl y1.2.1, hx'.mono y1.1⟩
  | tup l =>
    cases e2
    refine .inr (A.run k e1 _ fun v F1 H1 x1 h1 => ?_)
    cases h1 with
    | @tup a xs _ ha da =>
      have w := walk_tup (K := K) (a := a) (xs := xs)
      rw [da.length] at w
      refine ⟨a, rfl, ⟨xs, st_of (x1.ok.ex _ _ ha)⟩, q F1 H1 _ _ _ x1 w (fun F2 H2 y1 => st_of (y1.2.1 _ _ (y1.1 _ _ ha))) fun i d F2 H2 x H3 hd y1 y => ?_⟩
      obtain ⟨rfl, hx⟩ := y
      obtain ⟨d', hd', hx'⟩ := da.getV hx
      rw [hd] at hd'
      cases hd'
      exact ⟨F2, .refl y1.2.1, hx'.mono y1.1⟩
  | _ => cases e2⟩
def rangeD (lo : Int) (n : Nat) : List D := (List.range n).map fun i : Nat => D.int (lo + (i : Int))
theorem rangeD_at {lo : Int} {n i : Nat} {d : D} (h : (rangeD lo n)[i]? = some d) : d = D.int (lo + (i : Int)) := by
  unfold rangeD at h
  rw [List.getElem?_map] at h
  cases z : (List.range n)[i]? with
  | none =>
    rw [z] at h
    cases h
  | some j =>
    rw [z] at h
    have e := List.getElem?_eq_some_iff.mp z
    obtain ⟨h1, h2⟩ := e
    rw [List.getElem_range] at h2
    subst h2
    exact (Option.some.inj h).symm
theorem rangeD_len {lo : Int} {n : Nat} : (rangeD lo n).length = n := by simp [rangeD]
def itR1 (a : MA) : MA := fun s => (a s).bind fun p => match p.1 with
  | [.int j] => if -100000 ≤ j ∧ j ≤ 100000 then some (rangeD 0 j.toNat, p.2) else none
  | _ => none
instance it_r1 {ta : TA} {ma : MA} [A : EvA cl ta ma] : ItX cl (iRng1 ta) (itR1 ma) := ⟨fun {F H σ s ad ds s'} k e R q => by
  obtain ⟨⟨l, s1⟩, e1, e⟩ := bind_some e
  dsimp only at e
  split at e
  · rename_i j
    obtain ⟨hj, e⟩ := cond_some e
    cases e
    refine A.run k e1 _ fun vs F1 H1 x1 h1 => ?_
    cases h1 with
    | cons h1 h2 =>
      cases h2
      cases h1
      have w : Walk (Itr 0 j.toNat) (rangeD 0 j.toNat).length (fun _ => True) (YFn fun i => .int (0 + i)) := by
        rw [rangeD_len]
        exact walk_range
      refine ⟨j, rfl, by omega, by omega, q F1 H1 _ _ _ x1 w (fun _ _ _ => trivial) fun i d F2 H2 x H3 hd y1 y => ?_⟩
      obtain ⟨rfl, rfl⟩ := y
      rw [rangeD_at hd]
      exact ⟨F2, .refl y1.2.1, .int _⟩
  · cases e⟩
def itR2 (a : MA) : MA := fun s => (a s).bind fun p => match p.1 with
  | [.int i, .int j] => if -100000 ≤ i ∧ i ≤ 100000 ∧ -100000 ≤ j ∧ j ≤ 100000 then some (rangeD i (j - i).toNat, p.2) else none
  | _ => none
instance it_r2 {ta : TA} {ma : MA} [A : EvA cl ta ma] : ItX cl (iRng2 ta) (itR2 ma) := ⟨fun {F H σ s ad ds s'} k e R q => by
  obtain ⟨⟨l, s1⟩, e1, e⟩ := bind_some e
  dsimp only at e
  split at e
  · rename_i i j
    obtain ⟨hj, e⟩ := cond_some e
    cases e
    refine A.run k e1 _ fun vs F1 H1 x1 h1 => ?_
    cases h1 with
    | cons h1 h2 =>
      cases h2 with
      | cons h3 h4 =>
        cases h4
        cases h1
        cases h3
        have w : Walk (Itr i (j - i).toNat) (rangeD i (j - i).toNat).length (fun _ => True) (YFn fun k => .int (i + k)) := by
          rw [rangeD_len]
          exact walk_range
        refine ⟨i, j, rfl, ⟨by omega, by omega, by omega, by omega⟩, q F1 H1 _ _ _ x1 w (fun _ _ _ => trivial) fun i d F2 H2 x H3 hd y1 y => ?_⟩
        obtain ⟨rfl, rfl⟩ := y
        rw [rangeD_at hd]
        exact ⟨F2, .refl y1.2.1, .int _⟩
  · cases e⟩
/-! ### for -/
def loopM (f : D → S → Option (Out × S)) : List D → S → Option (Out × S)
  | [], s => some (.nx, s)
  | d :: ds, s => (f d s).bind fun p => match p.1 with
    | .nx => loopM f ds p.2
    | .cnt => loopM f ds p.2
    | .brk => some (.nx, p.2)
    | .ret x => some (.ret x, p.2)
def mFor (it : MA) (tg : D → S → Option S) (b : MS) : MS := fun s => (it s).bind fun p => loopM (fun d s => (tg d s).bind b) p.1 p.2
theorem drop_cons {α : Type} {l : List α} {i : Nat} {a : α} (h : l[i]? = some a) : l.drop i = a :: l.drop (i + 1) := by
  obtain ⟨h1, h2⟩ := List.getElem?_eq_some_iff.mp h
  rw [List.drop_eq_getElem_cons h1, h2]
instance s_for {wi : TI} {g : TG} {tb : TS} {it : MA} {tg : D → S → Option S} {b : MS} {js : List Nat} [I : ItX cl wi it] [T : TgX cl g tg js] [B : EvS cl tb b] : EvS cl (tFor wi g tb) (mFor it tg b) := ⟨fun {F H σ s ad o s'} k e E q => by
  obtain ⟨⟨ds, s1⟩, e1, e⟩ := bind_some e
  dsimp only at e
  refine I.run k e1 _ fun F1 H1 J G Y x1 w hG hY => ?_
  refine for_it w (fun i σ' H' => ∃ F' s2 ad', Po cl F1 H1 s1 ad F' H' σ' s2 ad' ∧ loopM (fun d s => (tg d s).bind b) (ds.drop i) s2 = some (o, s')) ⟨F1, s1, ad, .refl x1.ok, e⟩ (fun i σ' H' _ p => ?_) (fun i x σ' H' H'' hi p y => ?_) fun σ' H' p => ?_
  · obtain ⟨F', s2, ad', x2, _⟩ := p
    exact hG F' H' (x2.kp x1.ok)
  · obtain ⟨F', s2, ad', x2, e2⟩ := p
    obtain ⟨d, hd⟩ : ∃ d, ds[i]? = some d := ⟨ds[i], by simp [hi]⟩
    rw [drop_cons hd] at e2
    obtain ⟨⟨o1, s3⟩, e3, e4⟩ := bind_some e2
    obtain ⟨s4, e5, e6⟩ := bind_some e3
    obtain ⟨F2, st, hx⟩ := hY i d F' H' x H'' hd (x2.kp x1.ok) y
    have x3 := x2.trans (.step0 x2.ok st)
    refine T.run x3.ok hx e5 _ fun σ4 _ x4 => ?_
    have x5 := x3.trans x4
    refine B.run x5.ok e6 _ ?_
    cases o1 with
    | nx => exact fun F6 H6 σ6 ad6 y6 => ⟨F6, s3, ad6, x5.trans y6, e4⟩
    | cnt => exact fun F6 H6 σ6 ad6 y6 => ⟨F6, s3, ad6, x5.trans y6, e4⟩
    | brk =>
      cases e4
      exact fun F6 H6 σ6 ad6 y6 => q F6 H6 σ6 ad6 (x1.trans (x5.trans y6))
    | ret z =>
      cases e4
      exact fun v F6 H6 σ6 ad6 y6 h6 => q v F6 H6 σ6 ad6 (x1.trans (x5.trans y6)) h6
  · obtain ⟨F', s2, ad', x2, e2⟩ := p
    rw [List.drop_length] at e2
    cases e2
    exact q F' H' σ' ad' (x1.trans x2)⟩
end Fr

set_option Elab.async false
set_option linter.all false
set_option maxRecDepth 100000
set_option maxHeartbeats 2000000
namespace Fr
open PySem PySem.Spec PyProof.Rows L2 Evl
variable {cl : PySem.Str → Addr}
/-! ### comprehensions -/
def wipeS (s : S) : List Nat → S
  | [] => s
  | v :: vs => (wipeS s vs).set v .no
def backS (s1 s2 : S) : List Nat → S
  | [] => s2
  | v :: vs => match s1[v]? with
    | some l => (backS s1 s2 vs).set v l
    | none => backS s1 s2 vs
def noOwn (s : S) (vs : List Nat) : Bool := vs.all fun i => match s[i]? with
  | some (.rb _) => false
  | some l => l.cell.isNone
  | none => true
section
variable {F H : Hp} {σ : L2.St} {s s1 s2 : S} {ad : Nat → Addr} {vs : List Nat}
theorem wipe_len : ∀ vs : List Nat, (wipe σ vs).length = σ.length
  | [] => rfl
  | v :: vs => by
    show ((wipe σ vs).set v none).length = _
    rw [List.length_set, wipe_len vs]
theorem wipeS_len : ∀ vs : List Nat, (wipeS s vs).length = s.length
  | [] => rfl
  | v :: vs => by
    show ((wipeS s vs).set v .no).length = _
    rw [List.length_set, wipeS_len vs]
theorem wipe_out {j : Nat} : ∀ {vs : List Nat}, j ∉ vs → (wipe σ vs)[j]? = σ[j]?
  | [], _ => rfl
  | v :: vs, h => by
    show ((wipe σ vs).set v none)[j]? = _
    have ne : v ≠ j := fun z => h (z ▸ List.mem_cons_self ..)
    rw [List.getElem?_set_ne ne]
    exact wipe_out fun z => h (List.mem_cons_of_mem _ z)
theorem wipe_in {j : Nat} : ∀ {vs : List Nat}, j ∈ vs → j < σ.length → (wipe σ vs)[j]? = some none
  | v :: vs, h, hl => by
    show ((wipe σ vs).set v none)[j]? = _
    by_cases e : v = j
    · subst e
      rw [List.getElem?_set_self (by rw [wipe_len]; exact hl)]
    · rw [List.getElem?_set_ne e]
      rcases List.mem_cons.mp h with z | z
      · exact absurd z.symm e
      · exact wipe_in z hl
theorem wipeS_out {j : Nat} : ∀ {vs : List Nat}, j ∉ vs → (wipeS s vs)[j]? = s[j]?
  | [], _ => rfl
  | v :: vs, h => by
    show ((wipeS s vs).set v .no)[j]? = _
    have ne : v ≠ j := fun z => h (z ▸ List.mem_cons_self ..)
    rw [List.getElem?_set_ne ne]
    exact wipeS_out fun z => h (List.mem_cons_of_mem _ z)
theorem wipeS_in {j : Nat} : ∀ {vs : List Nat}, j ∈ vs → j < s.length → (wipeS s vs)[j]? = some .no
  | v :: vs, h, hl => by
    show ((wipeS s vs).set v .no)[j]? = _
    by_cases e : v = j
    · subst e
      rw [List.getElem?_set_self (by rw [wipeS_len]; exact hl)]
    · rw [List.getElem?_set_ne e]
      rcases List.mem_cons.mp h with z | z
      · exact absurd z.symm e
      · exact wipeS_in z hl
theorem wipeS_some {j : Nat} {l : Sl} (h : (wipeS s vs)[j]? = some l) : (j ∉ vs ∧ s[j]? = some l) ∨ (j ∈ vs ∧ l = .no) := by
  by_cases e : j ∈ vs
  · have hl : j < s.length := by
      have z := (List.getElem?_eq_some_iff.mp h).1
      rw [wipeS_len] at z
      exact z
    rw [wipeS_in e hl] at h
    exact .inr ⟨e, (Option.some.inj h).symm⟩
  · rw [wipeS_out e] at h
    exact .inl ⟨e, h⟩
theorem wipe_apart {σ2 : L2.St} {js : List Nat} (a : Apart js (wipe σ vs) σ2) (h : ∀ j ∈ js, j ∈ vs) : wipe σ2 vs = wipe σ vs := by
  apply List.ext_getElem?
  intro j
  by_cases e : j ∈ vs
  · by_cases hl : j < σ.length
    · rw [wipe_in e hl, wipe_in e (by rw [a.1, wipe_len]; exact hl)]
    · rw [List.getElem?_eq_none (by rw [wipe_len, a.1, wipe_len]; omega), List.getElem?_eq_none (by rw [wipe_len]; omega)]
  · rw [wipe_out e, a.2 j fun z => e (h j z)]
theorem own_wipe {a : Addr} (h : own (wipeS s vs) ad a) : own s ad a := by
  obtain ⟨j, l, d, g, c, rfl⟩ := h
  rcases wipeS_some g with ⟨z1, z2⟩ | ⟨z1, rfl⟩
  · exact ⟨j, l, d, z2, c, rfl⟩
  · cases c
theorem Ok.wipe (k : Ok cl F H σ s ad) : Ok cl F H (wipe σ vs) (wipeS s vs) ad where
  ex := k.ex
  len := by rw [wipe_len, wipeS_len]; exact k.len
  fz := fun j d g => by
    rcases wipeS_some g with ⟨z1, z2⟩ | ⟨z1, z⟩
    · obtain ⟨v, h1, h2⟩ := k.fz j d z2
      exact ⟨v, by rw [wipe_out z1]; exact h1, h2⟩
    · cases z
  ow := fun j l d g c => by
    rcases wipeS_some g with ⟨z1, z2⟩ | ⟨z1, rfl⟩
    · obtain ⟨h1, h2, h3⟩ := k.ow j l d z2 c
      exact ⟨by rw [wipe_out z1]; exact h1, h2, h3⟩
    · cases c
  ne := fun j j2 l m d e g c g2 c2 ne => by
    rcases wipeS_some g with ⟨z1, z2⟩ | ⟨z1, rfl⟩
    · rcases wipeS_some g2 with ⟨y1, y2⟩ | ⟨y1, rfl⟩
      · exact k.ne j j2 l m d e z2 c y2 c2 ne
      · cases c2
    · cases c
  rb := fun j d g => by
    rcases wipeS_some g with ⟨z1, z2⟩ | ⟨z1, z⟩
    · obtain ⟨h1, h2, h3⟩ := k.rb j d z2
      exact ⟨by rw [wipe_out z1]; exact h1, h2, h3⟩
    · cases z
theorem backS_len : ∀ vs : List Nat, (backS s1 s2 vs).length = s2.length
  | [] => rfl
  | v :: vs => by
    unfold backS
    split
    · rw [List.length_set, backS_len vs]
    · exact backS_len vs
theorem backS_some {j : Nat} {l : Sl} : ∀ {vs : List Nat}, (backS s1 s2 vs)[j]? = some l → (j ∈ vs ∧ s1[j]? = some l) ∨ (s2[j]? = some l ∧ (j ∈ vs → s1[j]? = none))
  | [], h => .inr ⟨h, fun z => nomatch z⟩
  | v :: vs, h => by
    unfold backS at h
    split at h
    · rename_i l0 h0
      rcases get_set h with ⟨rfl, z⟩ | ⟨z1, z2⟩
      · subst z
        exact .inl ⟨List.mem_cons_self .., h0⟩
      · rcases backS_some z2 with ⟨y1, y2⟩ | ⟨y1, y2⟩
        · exact .inl ⟨List.mem_cons_of_mem _ y1, y2⟩
        · refine .inr ⟨y1, fun z => ?_⟩
          rcases List.mem_cons.mp z with z | z
          · exact absurd z z1
          · exact y2 z
    · rename_i h0
      rcases backS_some h with ⟨y1, y2⟩ | ⟨y1, y2⟩
      · exact .inl ⟨List.mem_cons_of_mem _ y1, y2⟩
      · refine .inr ⟨y1, fun z => ?_⟩
        rcases List.mem_cons.mp z with z | z
        · rw [z]
          exact h0
        · exact y2 z
end
def lcM (tg : D → S → Option S) (t : MT) (e : M) (vs : List Nat) : List D → S → List D → Option (List D × S)
  | [], s, acc => some (acc, s)
  | d :: ds, s, acc => (tg d s).bind fun s1 => (t s1).bind fun p => if p.1 = true then (e p.2).bind fun q => if acc.length < 100000 then lcM tg t e vs ds (wipeS q.2 vs) (acc ++ [q.1]) else none else lcM tg t e vs ds (wipeS p.2 vs) acc
def mLc (it : MA) (tg : D → S → Option S) (js : List Nat) (t : MT) (e : M) (vs : List Nat) : M := fun s => (it s).bind fun p => if (noOwn p.2 vs && js.all fun j => vs.contains j) = true then (lcM tg t e vs p.1 (wipeS p.2 vs) []).map fun r => (.lst r.1, backS p.2 r.2 vs) else none
theorem step_po {O P : Addr → Prop} {F H F1 H1 F2 H2 : Hp} {s1 s2 : S} {ad1 ad2 : Nat → Addr} {σ2 : L2.St} (st : Step (fun a => O a ∨ P a) F H F1 H1) (sub : ∀ a, own s1 ad1 a → O a ∨ H a = none) (y : Po cl F1 H1 s1 ad1 F2 H2 σ2 s2 ad2) : Step (fun a => O a ∨ P a) F H F2 H2 := by
  refine step_trans2 st y.step fun a h n o => ?_
  rcases sub a o with z | z
  · exact n (.inl z)
  · exact h z
theorem sub_po {O : Addr → Prop} {Q : Addr → Prop} {F H F1 H1 F2 H2 : Hp} {s1 s2 : S} {ad1 ad2 : Nat → Addr} {σ2 : L2.St} (st : Step Q F H F1 H1) (sub : ∀ a, own s1 ad1 a → O a ∨ H a = none) (y : Po cl F1 H1 s1 ad1 F2 H2 σ2 s2 ad2) : ∀ a, own s2 ad2 a → O a ∨ H a = none := fun a h => by
  rcases y.sub a h with z | z
  · exact sub a z
  · refine .inr ?_
    cases q : H a with
    | none => rfl
    | some o => exact absurd z (st.2.2 a (by rw [q]; exact fun z => nomatch z)).1
theorem lc_kp {F H F' H' : Hp} {σ : L2.St} {s : S} {ad : Nat → Addr} {vs : List Nat} {D : Addr} {xs : List V} (k : Ok cl F H σ s ad) (hD : H D = none) (p : Step (fun a => own (wipeS s vs) ad a ∨ a = D) F (upd H D (.lst xs)) F' H') : Kp F H F' H' :=
  ⟨p.1, p.2.1, fun a od u g f => by
    have ne : a ≠ D := fun z => by
      rw [z, hD] at g
      cases g
    have g2 : upd H D (.lst xs) a = some (.frz od u) := by
      rw [upd_ne ne]
      exact g
    rw [((p.2.2 a (by rw [g2]; exact fun z => nomatch z)).2 f fun o => ?_).2]
    · exact g2
    · rcases o with o | o
      · exact k.nfz g (own_wipe o)
      · exact ne o⟩
instance n_lc {wi : TI} {g : TG} {tt : TT} {te : TE} {vs js : List Nat} {it : MA} {tg : D → S → Option S} {t : MT} {e : M} [I : ItX cl wi it] [T : TgX cl g tg js] [C : EvT cl tt t] [E : EvX cl te e] : EvN cl (tLc wi g tt te vs) (mLc it tg js t e vs) := ⟨fun {F H σ s ad d s'} k ee Q q => by
  obtain ⟨⟨ds, s1⟩, e1, ee⟩ := bind_some ee
  dsimp only at ee
  by_cases hcond : (noOwn s1 vs && js.all fun j => vs.contains j) = true
  · rw [if_pos hcond] at ee
    obtain ⟨⟨r, sE⟩, e2, ee⟩ := Option.map_eq_some_iff.mp ee
    cases ee
    obtain ⟨hno, hjs⟩ := Bool.and_eq_true_iff.mp hcond
    have hsub : ∀ j ∈ js, j ∈ vs := fun j hj => by simpa using List.all_eq_true.mp hjs j hj
    refine I.run k e1 _ fun F1 H1 J G Y x1 w hG hY Dl hD => ?_
    have nD : ∀ a, own s1 ad a → a ≠ Dl := fun a o z => (own_some x1.ok o).1 (z ▸ hD)
    have stD : Step (fun _ => False) F1 H1 F1 (upd H1 Dl (.lst [])) := .newM x1.ok.ex hD
    have okD : Ok cl F1 (upd H1 Dl (.lst [])) σ s1 ad := (Po.step0 x1.ok stD).ok
    refine lc_it w (fun i H' => ∃ F' s2 acc da, Ok cl F' H' (wipe σ vs) s2 ad ∧ Step (fun a => own (wipeS s1 vs) ad a ∨ a = Dl) F1 (upd H1 Dl (.lst [])) F' H' ∧ (∀ a, own s2 ad a → own (wipeS s1 vs) ad a ∨ (upd H1 Dl (.lst [])) a = none) ∧
      (∀ (i : Nat) (d : D), (wipeS s1 vs)[i]? = some (Sl.pm d) → ∃ d', s2[i]? = some (Sl.pm d')) ∧ F' Dl = none ∧ H' Dl = some (.lst acc) ∧ DxAll cl F' acc da ∧ lcM tg t e vs (ds.drop i) s2 da = some (r, sE))
      ⟨F1, _, [], [], okD.wipe, .refl okD.ex, fun a o => .inl o, fun i d h => ⟨d, h⟩, ex_none x1.ok.ex hD, upd_same, .nil, e2⟩ (fun i H' _ p => ?_) (fun i x H' H'' hi p y => ?_) fun H' p => ?_
    · obtain ⟨F', s2, acc, da, p1, p2, _⟩ := p
      exact hG F' H' (lc_kp x1.ok hD p2)
    · obtain ⟨F', s2, acc, da, p1, p2, p3, p4, p5, p6, p7, p8⟩ := p
      obtain ⟨d, hd⟩ : ∃ d, ds[i]? = some d := ⟨ds[i], by simp [hi]⟩
      rw [drop_cons hd] at p8
      obtain ⟨s3, f1, p8⟩ := bind_some p8
      obtain ⟨⟨c, s4⟩, f2, p8⟩ := bind_some p8
      have notD : ∀ {s5 : S}, (∀ a, own s5 ad a → own (wipeS s1 vs) ad a ∨ (upd H1 Dl (.lst [])) a = none) → ¬ own s5 ad Dl := fun hs o => by
        rcases hs _ o with z | z
        · exact nD _ (own_wipe z) rfl
        · rw [upd_same] at z
          cases z
      obtain ⟨F2, st, hx⟩ := hY i d F' H' x H'' hd (lc_kp x1.ok hD p2) y
      have y0 := Po.step0 p1 st
      refine T.run y0.ok hx f1 _ fun σ3 ap x3 => ⟨wipe_apart ap hsub, C.run x3.ok f2 _ fun F4 H4 x4 => ?_⟩
      have x5 := (y0.trans x3).trans x4
      have st5 := step_po p2 p3 x5
      have sub5 := sub_po p2 p3 x5
      have keepD : ∀ {F6 H6 : Hp} {σ6 : L2.St} {s6 : S}, Po cl F' H' s2 ad F6 H6 σ6 s6 ad → F6 Dl = none ∧ H6 Dl = some (.lst acc) := fun x6 => by
        obtain ⟨w1, w2⟩ := x6.step.2.2 Dl (by rw [p6]; exact fun z => nomatch z)
        obtain ⟨w3, w4⟩ := w2 p5 (notD p3)
        exact ⟨w3 (by rw [p6]; exact fun _ z => nomatch z), by rw [w4]; exact p6⟩
      have wp : wipe σ3 vs = wipe σ vs := wipe_apart ap hsub
      cases c with
      | false =>
        simp only [Bool.false_eq_true, if_false] at p8 ⊢
        refine ⟨F4, wipeS s4 vs, acc, da, ?_, st5, fun a o => sub5 a (own_wipe o), fun i2 d2 h2 => ?_, (keepD x5).1, (keepD x5).2, p7.mono x5.step.ex, p8⟩
        · have z := x5.ok.wipe (vs := vs)
          rw [wp] at z
          exact z
        · obtain ⟨d3, h3⟩ := p4 i2 d2 h2
          obtain ⟨_, d4, h4⟩ := x5.pms i2 d3 h3
          rcases wipeS_some h2 with ⟨n1, _⟩ | ⟨_, z⟩
          · exact ⟨d4, by rw [wipeS_out n1]; exact h4⟩
          · cases z
      | true =>
        simp only [if_true] at p8 ⊢
        obtain ⟨⟨de, s6⟩, f3, p8⟩ := bind_some p8
        dsimp only at p8
        by_cases hz : da.length < 100000
        · rw [if_pos hz] at p8
          refine E.run x4.ok f3 _ fun yv F6 H6 x6 h6 => ?_
          have x7 := x5.trans x6
          have st7 := step_po p2 p3 x7
          have sub7 := sub_po p2 p3 x7
          obtain ⟨kd1, kd2⟩ := keepD x7
          refine ⟨acc, kd2, sz_lt (by rw [p7.length]; exact hz), F6, wipeS s6 vs, acc ++ [yv], da ++ [de], ?_, ?_, fun a o => sub7 a (own_wipe o), fun i2 d2 h2 => ?_, kd1, upd_same, (p7.mono x7.step.ex).app (.cons h6 .nil), p8⟩
          · have z := x7.ok.wipe (vs := vs)
            rw [wp] at z
            have st8 : Step (fun a => a = Dl) F6 H6 F6 (upd H6 Dl (.lst (acc ++ [yv]))) := .write x7.ok.ex rfl kd1
            exact z.step st8 (fun a o z2 => notD (fun a o => sub7 a (own_wipe o)) (z2 ▸ o)) fun a od u hz z2 => by
              rw [z2, kd2] at hz
              cases hz
          · exact st7.trans (.write x7.ok.ex (.inr rfl) kd1)
          · obtain ⟨d3, h3⟩ := p4 i2 d2 h2
            obtain ⟨_, d4, h4⟩ := x7.pms i2 d3 h3
            rcases wipeS_some h2 with ⟨n1, _⟩ | ⟨_, z⟩
            · exact ⟨d4, by rw [wipeS_out n1]; exact h4⟩
            · cases z
        · rw [if_neg hz] at p8
          cases p8
    · obtain ⟨F', s2, acc, da, p1, p2, p3, p4, p5, p6, p7, p8⟩ := p
      rw [List.drop_length] at p8
      cases p8
      have hn : H Dl = none := by
        cases z : H Dl with
        | none => rfl
        | some o => exact absurd hD (x1.step.2.2 Dl (by rw [z]; exact fun z => nomatch z)).1
      have slot : ∀ {j : Nat} {l : Sl} {d : D}, (backS s1 sE vs)[j]? = some l → l.cell = some d → sE[j]? = some l ∧ j ∉ vs := fun {j l d} g c => by
        rcases backS_some g with ⟨z1, z2⟩ | ⟨z1, z2⟩
        · have b := List.all_eq_true.mp hno j z1
          rw [z2] at b
          cases l <;> first | (cases c; done) | (cases b; done)
        · refine ⟨z1, fun z => ?_⟩
          have n1 := z2 z
          have l1 : s1.length = sE.length := by
            have q1 := p1.len
            rw [wipe_len, x1.ok.len] at q1
            exact q1
          have z3 := (List.getElem?_eq_some_iff.mp z1).1
          have z4 := List.getElem?_eq_none_iff.mp n1
          omega
      have stA : Step (own s ad) F H F' H' := by
        have a1 : Step (own s ad) F H F1 (upd H1 Dl (.lst [])) := x1.step.trans (.newM x1.ok.ex hD)
        refine step_trans2 a1 p2 fun a h no o => ?_
        rcases o with o | o
        · rcases x1.sub a (own_wipe o) with z | z
          · exact no z
          · exact h z
        · exact h (o ▸ hn)
      refine q Dl F' H' hn p5 (fun a o z => ?_) ⟨stA, ?_, fun a o => ?_, fun j d0 g => ?_⟩ ⟨acc, p6, p7⟩
      · obtain ⟨j, l, d, g, c, rfl⟩ := o
        obtain ⟨g2, _⟩ := slot g c
        rcases p3 _ ⟨j, l, d, g2, c, rfl⟩ with y | y
        · exact nD _ (own_wipe y) z
        · rw [z, upd_same] at y
          cases y
      · refine ⟨p1.ex, ?_, fun j d g => ?_, fun j l d g c => ?_, fun j j2 l m d e2 g c g2 c2 ne => ?_, fun j d g => ?_⟩
        · rw [backS_len]
          have q1 := p1.len
          rw [wipe_len] at q1
          exact q1
        · rcases backS_some g with ⟨z1, z2⟩ | ⟨z1, z2⟩
          · obtain ⟨v, h1, h2⟩ := x1.ok.fz j d z2
            exact ⟨v, h1, h2.mono p2.ex⟩
          · obtain ⟨v, h1, h2⟩ := p1.fz j d z1
            by_cases hv : j ∈ vs
            · have q1 := (List.getElem?_eq_some_iff.mp h1).1
              rw [wipe_len] at q1
              rw [wipe_in hv q1] at h1
              cases h1
            · rw [wipe_out hv] at h1
              exact ⟨v, h1, h2⟩
        · obtain ⟨g2, nv⟩ := slot g c
          obtain ⟨h1, h2, h3⟩ := p1.ow j l d g2 c
          rw [wipe_out nv] at h1
          exact ⟨h1, h2, h3⟩
        · obtain ⟨g3, _⟩ := slot g c
          obtain ⟨g4, _⟩ := slot g2 c2
          exact p1.ne j j2 l m d e2 g3 c g4 c2 ne
        · rcases backS_some g with ⟨z1, z2⟩ | ⟨z1, z2⟩
          · have b := List.all_eq_true.mp hno j z1
            rw [z2] at b
            cases b
          · obtain ⟨h1, h2, h3⟩ := p1.rb j d z1
            by_cases hv : j ∈ vs
            · have q1 := (List.getElem?_eq_some_iff.mp h1).1
              rw [wipe_len] at q1
              rw [wipe_in hv q1] at h1
              cases h1
            · rw [wipe_out hv] at h1
              exact ⟨h1, h2, h3⟩
      · obtain ⟨j, l, d, g, c, rfl⟩ := o
        obtain ⟨g2, _⟩ := slot g c
        rcases p3 _ ⟨j, l, d, g2, c, rfl⟩ with y | y
        · exact x1.sub _ (own_wipe y)
        · refine .inr ?_
          cases z : H (ad j) with
          | none => rfl
          | some o =>
            have w1 := (x1.step.2.2 (ad j) (by rw [z]; exact fun z => nomatch z)).1
            have ne : ad j ≠ Dl := fun zz => by
              rw [zz, upd_same] at y
              cases y
            rw [upd_ne ne] at y
            exact absurd y w1
      · obtain ⟨y1, d1, y2⟩ := x1.pms j d0 g
        refine ⟨rfl, ?_⟩
        have nv : j ∉ vs := fun hv => by
          have b := List.all_eq_true.mp hno j hv
          rw [y2] at b
          cases b
        obtain ⟨d2, y3⟩ := p4 j d1 (by rw [wipeS_out nv]; exact y2)
        refine ⟨d2, ?_⟩
        have gen : ∀ vs : List Nat, j ∉ vs → (backS s1 sE vs)[j]? = sE[j]? := by
          intro vs
          induction vs with
          | nil => exact fun _ => rfl
          | cons v vs ih =>
            intro h
            have ne : v ≠ j := fun z => h (z ▸ List.mem_cons_self ..)
            unfold backS
            split
            · rw [List.getElem?_set_ne ne]
              exact ih fun z => h (List.mem_cons_of_mem _ z)
            · exact ih fun z => h (List.mem_cons_of_mem _ z)
        rw [gen vs nv]
        exact y3
  · rw [if_neg hcond] at ee
    cases ee⟩
instance i_lc {wi : TI} {g : TG} {tt : TT} {te : TE} {vs js : List Nat} {it : MA} {tg : D → S → Option S} {t : MT} {e : M} [I : ItX cl wi it] [T : TgX cl g tg js] [C : EvT cl tt t] [E : EvX cl te e] : EvX cl (tLc wi g tt te vs) (mLc it tg js t e vs) := EvN.toX fun {s d s'} h => by
  obtain ⟨p, _, h⟩ := bind_some h
  by_cases c : (noOwn p.2 vs && js.all fun j => vs.contains j) = true
  · rw [if_pos c] at h
    obtain ⟨r, _, h⟩ := Option.map_eq_some_iff.mp h
    cases h
    exact ⟨_, rfl⟩
  · rw [if_neg c] at h
    cases h
def mYes : MT := fun s => some (true, s)
instance t_yes : EvT cl tYes mYes := ⟨fun {F H σ s ad d s'} k e Q q => by
  cases e
  exact q F H (.refl k)⟩
end Fr

set_option Elab.async false
set_option linter.all false
set_option maxRecDepth 100000
set_option maxHeartbeats 2000000
namespace Fr
open PySem PySem.Spec PyProof.Rows L2 Evl
variable {cl : PySem.Str → Addr}
/-! ### defs -/
def outD : Out → Option D
  | .ret d => some d
  | .nx => some .non
  | _ => none
def runDef (m : MS) (n : Nat) (ds : List D) : Option D := (m (ds.map Sl.fz ++ List.replicate (n - ds.length) Sl.no)).bind fun p => outD p.1
theorem get_app {α : Type} {a b : List α} {i : Nat} {x : α} (h : (a ++ b)[i]? = some x) : a[i]? = some x ∨ (a.length ≤ i ∧ b[i - a.length]? = some x) := by
  by_cases e : i < a.length
  · rw [List.getElem?_append_left e] at h
    exact .inl h
  · rw [List.getElem?_append_right (by omega)] at h
    exact .inr ⟨by omega, h⟩
theorem rep_no {n i : Nat} {l : Sl} (h : (List.replicate n Sl.no)[i]? = some l) : l = .no := by
  rw [List.getElem?_replicate] at h
  split at h
  · exact (Option.some.inj h).symm
  · cases h
theorem start_slot {ds : List D} {n i : Nat} {l : Sl} (h : (ds.map Sl.fz ++ List.replicate n Sl.no)[i]? = some l) : (∃ d, ds[i]? = some d ∧ l = .fz d) ∨ l = .no := by
  rcases get_app h with z | ⟨_, z⟩
  · rw [List.getElem?_map] at z
    cases q : ds[i]? with
    | none =>
      rw [q] at z
      cases z
    | some d =>
      rw [q] at z
      exact .inl ⟨d, rfl, (Option.some.inj z).symm⟩
  · exact .inr (rep_no z)
theorem ok_start {F H : Hp} {N : List PySem.Str} {vs : List V} {ds : List D} (e : Ex F H) (h : DxAll cl F vs ds) (ad : Nat → Addr) : Ok cl F H (L2.start N vs) (ds.map Sl.fz ++ List.replicate (N.length - ds.length) Sl.no) ad := by
  refine ⟨e, ?_, fun i d g => ?_, fun i l d g c => ?_, fun i j l m d f g c => ?_, fun i d g => ?_⟩
  · unfold L2.start
    simp [h.length]
  · rcases start_slot g with ⟨d', h1, h2⟩ | z
    · cases h2
      obtain ⟨v, e1, e2⟩ := h.get h1
      refine ⟨v, ?_, e2⟩
      unfold L2.start
      have hl := (List.getElem?_eq_some_iff.mp e1).1
      rw [List.getElem?_append_left (by simpa using hl), List.getElem?_map, e1]
      rfl
    · cases z
  · rcases start_slot g with ⟨d', h1, h2⟩ | z
    · subst h2
      cases c
    · subst z
      cases c
  · rcases start_slot g with ⟨d', h1, h2⟩ | z
    · subst h2
      cases c
    · subst z
      cases c
  · rcases start_slot g with ⟨d', h1, h2⟩ | z
    · cases h2
    · cases z
theorem no_own {ds : List D} {n : Nat} {ad : Nat → Addr} {a : Addr} : ¬ own (ds.map Sl.fz ++ List.replicate n Sl.no) ad a := fun ⟨i, l, d, g, c, _⟩ => by
  rcases start_slot g with ⟨d', h1, h2⟩ | z
  · subst h2
    cases c
  · subst z
    cases c
section
variable {P : Program} {w : World} {K : PySem.W.Frag} {mg : PySem.Str → Option Value} {base : Heap} {x qual : PySem.Str} {params : Arguments} {body : List Stmt} {scope : Scope} {dvs : List V} {kws : List (PySem.Str × V)} {f : Addr} {fd : FuncData}
theorem okD {CX : CXT} {N ps : List PySem.Str} {k np : Nat} {m : MS} {Φ : List D → Option D} (F : FunD K x qual params body scope dvs kws f fd) (S : FnScope N ps scope) (hn : ps.length = np) (hΦ : runDef m N.length = Φ)
    (hbody : ∀ (cdv : Value) (A : Around) (outer : List Env) (s : Shared) (H : Hp) (E : XK), Room k (A.deeper (envOfC qual scope s.heap.objs.size f cdv)) → ∃ t, PSs (cxOf CX P w K mg base N qual scope f cdv A outer s H E) body t ∧ EvS cl t m) :
    FnOk P w K mg base CX (k + 1) f fd ps (spD cl np Φ) := by
  subst hn hΦ
  refine F.ok S (fun vs H Q E h => h.1) ?_
  intro cdv A outer s H vs Q E hr h
  obtain ⟨t, h1, h2⟩ := hbody cdv A outer s H E hr
  refine ⟨t, h1, ?_⟩
  obtain ⟨_, F0, ds, d, ex, dx, e, q⟩ := h
  obtain ⟨⟨o, s'⟩, e1, e2⟩ := bind_some e
  refine h2.run (ok_start ex dx fun _ => 0) e1 _ ?_
  cases o with
  | nx =>
    cases e2
    exact fun F' H' σ' ad' y => q .non F' H' (y.step.mono fun a o _ _ => (no_own o).elim) .non
  | ret r =>
    cases e2
    exact fun v F' H' σ' ad' y hv => q v F' H' (y.step.mono fun a o _ _ => (no_own o).elim) hv
  | brk => cases e2
  | cnt => cases e2
end
/-! ### defs whose first argument is changed -/
section
variable {F H F' H' : Hp} {σ : L2.St} {s : S} {ad : Nat → Addr} {i : Nat} {l : Sl} {d e : D}
theorem Ok.writeS (k : Ok cl F H σ s ad) (hl : s[i]? = some l) (hc : l.cell = some d) (st : Step (fun a => a = ad i) F H F' H') (hF : F' (ad i) = none) (h : Cell cl F' (H' (ad i)) e) : Po cl F H s ad F' H' σ (s.set i (reCell l e)) ad := by
  obtain ⟨k1, k2, k3⟩ := k.ow i l d hl hc
  refine ⟨st.mono fun a z _ _ => ⟨i, l, d, hl, hc, z.symm⟩, ⟨st.exH, by rw [List.length_set]; exact k.len, fun j f g => ?_, fun j m f g c => ?_, fun j j2 m m2 f f2 g c g2 c2 ne => ?_, fun j f g => ?_⟩, fun a z => .inl (own_set hl hc z), fun j f g => ?_⟩
  · rcases get_set g with ⟨rfl, z⟩ | ⟨z1, z2⟩
    · cases l <;> first | (cases z; done) | (cases hc; done)
    · obtain ⟨v, h1, h2⟩ := k.fz j f z2
      exact ⟨v, h1, h2.mono st.ex⟩
  · rcases get_set g with ⟨rfl, z⟩ | ⟨z1, z2⟩
    · subst z
      rw [reCell_cell hc] at c
      cases c
      exact ⟨k1, hF, h⟩
    · obtain ⟨u1, u2, u3⟩ := k.ow j m f z2 c
      obtain ⟨w1, w2⟩ := st.2.2 _ u3.nn
      obtain ⟨w3, w4⟩ := w2 u2 (k.ne j i m l f d z2 c hl hc z1)
      refine ⟨u1, w3 u3.nt, ?_⟩
      rw [w4]
      exact u3.mono st.ex
  · rcases get_set g with ⟨rfl, z⟩ | ⟨z1, z2⟩
    · rcases get_set g2 with ⟨rfl, y⟩ | ⟨y1, y2⟩
      · exact absurd rfl ne
      · exact k.ne j j2 l m2 d f2 hl hc y2 c2 ne
    · rcases get_set g2 with ⟨rfl, y⟩ | ⟨y1, y2⟩
      · exact k.ne j j2 m l f d z2 c hl hc ne
      · exact k.ne j j2 m m2 f f2 z2 c y2 c2 ne
  · rcases get_set g with ⟨rfl, z⟩ | ⟨z1, z2⟩
    · cases l <;> first | (cases z; done) | (cases hc; done)
    · obtain ⟨u1, u2, u3⟩ := k.rb j f z2
      have ne := rb_own (o := none) u3 k3
      obtain ⟨od, u, g1, g2⟩ := u3
      obtain ⟨w1, w2⟩ := st.2.2 (ad j) (by rw [g1]; exact fun z => nomatch z)
      obtain ⟨w3, w4⟩ := w2 u2 ne
      exact ⟨u1, w3 (by rw [g1]; exact fun _ z => nomatch z), od, u, by rw [w4]; exact g1, g2.mono st.ex⟩
  · refine ⟨rfl, ?_⟩
    by_cases z : j = i
    · subst z
      rw [hl] at g
      cases g
      exact ⟨e, by rw [List.getElem?_set_self (List.getElem?_eq_some_iff.mp hl).1]; rfl⟩
    · exact ⟨f, by rw [List.getElem?_set_ne (Ne.symm z)]; exact g⟩
end
def spP (cl : PySem.Str → Addr) (np : Nat) (Φ : D → List D → Option (D × D)) : Sp := fun vs H Q _ => vs.length = np ∧ ∃ l us F ds pd d pd', vs = V.ref l :: us ∧ Ex F H ∧ F l = none ∧ Cell cl F (H l) pd ∧ DxAll cl F us ds ∧ Φ pd ds = some (d, pd') ∧
  ∀ v F' H', Step (fun a => a = l) F H F' H' → F' l = none → Cell cl F' (H' l) pd' → Dx cl F' v d → Q v H'
def mCallP (np j : Nat) (Φ : D → List D → Option (D × D)) (a : MA) : M := fun s => (cellAt s j).bind fun _ => (a s).bind fun p => (cellAt p.2 j).bind fun pd => if p.1.length + 1 = np then (Φ pd p.1).map fun r => (r.1, setCell p.2 j r.2) else none
instance i_callP {np j : Nat} {Φ : D → List D → Option (D × D)} {E : XK} {t : TA} {mt : MA} [A : EvA cl t mt] : EvX cl (tCall (spP cl np Φ) [] E (tCons (tVar j) t)) (mCallP np j Φ mt) := ⟨fun {F H σ s ad d s'} k e Q q => by
  obtain ⟨pd0, e0, e⟩ := bind_some e
  obtain ⟨⟨ds, s1⟩, e1, e⟩ := bind_some e
  obtain ⟨pd, e2, e⟩ := bind_some e
  dsimp only at e e2
  by_cases hl : ds.length + 1 = np
  · rw [if_pos hl] at e
    obtain ⟨⟨d1, pd1⟩, e3, e⟩ := Option.map_eq_some_iff.mp e
    cases e
    obtain ⟨l0, hl0, hc0⟩ := cellAt_some e0
    obtain ⟨l1, hl1, hc1⟩ := cellAt_some e2
    obtain ⟨k1, _, _⟩ := k.ow j l0 _ hl0 hc0
    refine ⟨_, k1, A.run k e1 _ fun vs F1 H1 x1 h1 => ?_⟩
    obtain ⟨g1, g2, g3⟩ := x1.ok.ow j l1 _ hl1 hc1
    refine ⟨by rw [List.append_nil, List.length_cons, h1.length]; exact hl, ad j, vs, F1, ds, pd, d1, pd1, by rw [List.append_nil], x1.ok.ex, g2, g3, h1, e3, fun v F2 H2 st f2 c2 h2 => ?_⟩
    have w := x1.ok.writeS hl1 hc1 st f2 c2
    rw [setCell_eq hl1] at q
    exact q v F2 H2 (x1.trans w) h2
  · rw [if_neg hl] at e
    cases e⟩
def runDefP (m : MS) (n : Nat) (pd : D) (ds : List D) : Option (D × D) := (m (Sl.pm pd :: (ds.map Sl.fz ++ List.replicate (n - (ds.length + 1)) Sl.no))).bind fun p => (outD p.1).bind fun d => match p.2[0]? with
  | some (Sl.pm pd') => some (d, pd')
  | _ => none
theorem startP {ds : List D} {n i : Nat} {pd : D} {l : Sl} (h : (Sl.pm pd :: (ds.map Sl.fz ++ List.replicate n Sl.no))[i]? = some l) : (i = 0 ∧ l = .pm pd) ∨ (∃ j, i = j + 1 ∧ ((∃ d, ds[j]? = some d ∧ l = .fz d) ∨ l = .no)) := by
  cases i with
  | zero => exact .inl ⟨rfl, by simpa using h.symm⟩
  | succ j => exact .inr ⟨j, rfl, start_slot (by simpa using h)⟩
theorem ok_startP {F H : Hp} {N : List PySem.Str} {l : Addr} {us : List V} {ds : List D} {pd : D} (e : Ex F H) (hF : F l = none) (hc : Cell cl F (H l) pd) (h : DxAll cl F us ds) : Ok cl F H (L2.start N (V.ref l :: us)) (Sl.pm pd :: (ds.map Sl.fz ++ List.replicate (N.length - (ds.length + 1)) Sl.no)) (fun _ => l) := by
  refine ⟨e, ?_, fun i d g => ?_, fun i l' d g c => ?_, fun i j l' m d f g c g2 c2 ne => ?_, fun i d g => ?_⟩
  · unfold L2.start
    simp [h.length]
  · rcases startP g with ⟨_, z⟩ | ⟨j, rfl, ⟨d', h1, h2⟩ | z⟩
    · cases z
    · cases h2
      obtain ⟨v, e1, e2⟩ := h.get h1
      refine ⟨v, ?_, e2⟩
      unfold L2.start
      have hl := (List.getElem?_eq_some_iff.mp e1).1
      rw [List.getElem?_append_left (by simpa using hl), List.getElem?_map, List.getElem?_cons_succ, e1]
      rfl
    · cases z
  · rcases startP g with ⟨rfl, z⟩ | ⟨j, rfl, ⟨d', h1, h2⟩ | z⟩
    · subst z
      cases c
      exact ⟨rfl, hF, hc⟩
    · subst h2
      cases c
    · subst z
      cases c
  · rcases startP g with ⟨rfl, z⟩ | ⟨j', rfl, ⟨d', h1, h2⟩ | z⟩
    · rcases startP g2 with ⟨rfl, z⟩ | ⟨j', rfl, ⟨d', h1, h2⟩ | z⟩
      · exact absurd rfl ne
      · subst h2
        cases c2
      · subst z
        cases c2
    · subst h2
      cases c
    · subst z
      cases c
  · rcases startP g with ⟨rfl, z⟩ | ⟨j', rfl, ⟨d', h1, h2⟩ | z⟩
    · cases z
    · cases h2
    · cases z
section
variable {P : Program} {w : World} {K : PySem.W.Frag} {mg : PySem.Str → Option Value} {base : Heap} {x qual : PySem.Str} {params : Arguments} {body : List Stmt} {scope : Scope} {dvs : List V} {kws : List (PySem.Str × V)} {f : Addr} {fd : FuncData}
theorem okP {CX : CXT} {N ps : List PySem.Str} {k np : Nat} {m : MS} {Φ : D → List D → Option (D × D)} (F : FunD K x qual params body scope dvs kws f fd) (S : FnScope N ps scope) (hn : ps.length = np) (hΦ : runDefP m N.length = Φ)
    (hbody : ∀ (cdv : Value) (A : Around) (outer : List Env) (s : Shared) (H : Hp) (E : XK), Room k (A.deeper (envOfC qual scope s.heap.objs.size f cdv)) → ∃ t, PSs (cxOf CX P w K mg base N qual scope f cdv A outer s H E) body t ∧ EvS cl t m) :
    FnOk P w K mg base CX (k + 1) f fd ps (spP cl np Φ) := by
  subst hn hΦ
  refine F.ok S (fun vs H Q E h => h.1) ?_
  intro cdv A outer s H vs Q E hr h
  obtain ⟨t, h1, h2⟩ := hbody cdv A outer s H E hr
  refine ⟨t, h1, ?_⟩
  obtain ⟨_, l, us, F0, ds, pd, d, pd', rfl, ex, hF, hc, dx, e, q⟩ := h
  obtain ⟨⟨o, s'⟩, e1, e⟩ := bind_some e
  obtain ⟨d1, e2, e⟩ := bind_some e
  dsimp only at e e2
  have k0 := ok_startP (N := N) ex hF hc dx
  have o1 : ∀ a, own (Sl.pm pd :: (ds.map Sl.fz ++ List.replicate (N.length - (ds.length + 1)) Sl.no)) (fun _ => l) a → a = l := fun a ⟨i, l', d, g, c, z⟩ => z.symm
  split at e
  · rename_i pd2 hp
    cases e
    have fin : ∀ {F' H' : Hp} {σ' : L2.St} {ad' : Nat → Addr}, Po cl F0 H (Sl.pm pd :: (ds.map Sl.fz ++ List.replicate (N.length - (ds.length + 1)) Sl.no)) (fun _ => l) F' H' σ' s' ad' → Step (fun a => a = l) F0 H F' H' ∧ F' l = none ∧ Cell cl F' (H' l) pd' := fun y => by
      obtain ⟨z1, _⟩ := y.pms 0 pd rfl
      obtain ⟨_, z2, z3⟩ := y.ok.ow 0 _ pd' hp rfl
      rw [z1] at z2 z3
      exact ⟨y.step.mono fun a o _ _ => o1 a o, z2, z3⟩
    refine h2.run k0 e1 _ ?_
    cases o with
    | nx =>
      cases e2
      exact fun F' H' σ' ad' y => q .non F' H' (fin y).1 (fin y).2.1 (fin y).2.2 .non
    | ret r =>
      cases e2
      exact fun v F' H' σ' ad' y hv => q v F' H' (fin y).1 (fin y).2.1 (fin y).2.2 hv
    | brk => cases e2
    | cnt => cases e2
  · cases e
end
/-! ### own things looked at, and one place of an own list changed -/
def mIxO (j : Nat) (b : M) : M := fun s => (cellAt s j).bind fun _ => (b s).bind fun p => (cellAt p.2 j).bind fun c => (dIx c p.1).map fun d => (d, p.2)
instance i_ixO {K : PySem.W.Frag} {j : Nat} {tb : TE} {mb : M} [B : EvX cl tb mb] : EvX cl (tOp (U.rIxU K) (tVar j) tb) (mIxO j mb) := ⟨fun {F H σ s ad d s'} k e Q q => by
  obtain ⟨pd0, e0, e⟩ := bind_some e
  obtain ⟨⟨dy, s1⟩, e1, e⟩ := bind_some e
  obtain ⟨c, e2, e⟩ := bind_some e
  obtain ⟨d1, e3, e⟩ := Option.map_eq_some_iff.mp e
  cases e
  obtain ⟨l0, hl0, hc0⟩ := cellAt_some e0
  obtain ⟨l1, hl1, hc1⟩ := cellAt_some e2
  obtain ⟨k1, _, _⟩ := k.ow j l0 _ hl0 hc0
  refine ⟨_, k1, B.run k e1 _ fun u F1 H1 x1 h1 => ?_⟩
  obtain ⟨g1, g2, g3⟩ := x1.ok.ow j l1 _ hl1 hc1
  cases c with
  | lst ds =>
    obtain ⟨xs, hx, dx⟩ := g3
    cases h1 with
    | int i =>
      obtain ⟨n, k1, k2⟩ := atI_map dx.length e3
      obtain ⟨v, v1, v2⟩ := dx.get k2
      exact .inl ⟨ad j, xs, i, v, rfl, rfl, sq_of hx, by unfold atI; rw [k1]; exact v1, q _ _ _ x1 v2⟩
    | _ => cases e3
  | _ => first | cases e3 | exact g3.elim⟩
def mLenO (j : Nat) : M := fun s => match cellAt s j with
  | some (.lst ds) => some (.int ds.length, s)
  | _ => none
instance i_lenO {K : PySem.W.Frag} {j : Nat} : EvX cl (tCB (U.rLenU K) (tCons (tVar j) tNil)) (mLenO j) := ⟨fun {F H σ s ad d s'} k e Q q => by
  unfold mLenO at e
  split at e
  · rename_i ds h0
    cases e
    obtain ⟨l0, hl0, hc0⟩ := cellAt_some h0
    obtain ⟨k1, k2, xs, k3, k4⟩ := k.ow j l0 _ hl0 hc0
    exact ⟨_, k1, .inl ⟨ad j, xs, rfl, .inl (sq_of k3), by rw [k4.length]; exact q _ _ _ (.refl k) (.int _)⟩⟩
  · cases e⟩
/-- x not in xs, x in xs: xs own -/
def mInO (neg : Bool) (a : M) (j : Nat) : M := fun s => (a s).bind fun p => match cellAt p.2 j with
  | some (.lst ds) => if p.1.shp && (D.lst ds).shp then some (.bl (if neg then !((pys ds).any fun z => PyData.eqv z p.1.py) else (pys ds).any fun z => PyData.eqv z p.1.py), p.2) else none
  | _ => none
theorem inO_run {K : PySem.W.Frag} {F H : Hp} {σ : L2.St} {s : S} {ad : Nat → Addr} {j : Nat} {v : V} {d : D} {ds : List D} (k : Ok cl F H σ s ad) (h0 : cellAt s j = some (.lst ds)) (h : Dx cl F v d) (hs : (d.shp && (D.lst ds).shp) = true) :
    σ[j]? = some (some (.ref (ad j))) ∧ Dp K H v d.py ∧ Dp K H (.ref (ad j)) (.list (pys ds)) ∧ SeqAt.shaped d.py = true ∧ SeqAt.shaped (.list (pys ds)) = true := by
  obtain ⟨l0, hl0, hc0⟩ := cellAt_some h0
  obtain ⟨k1, k2, xs, k3, k4⟩ := k.ow j l0 _ hl0 hc0
  obtain ⟨h1, h2⟩ := Bool.and_eq_true_iff.mp hs
  have p2 := D.shp_plain h2
  have p3 : plains ds = true := by simpa only [D.plain] using p2
  refine ⟨k1, (h.mono k.ex).dp (D.shp_plain h1), .lst (sq_of k3) ((k4.mono k.ex).dp p3), h.shaped h1, ?_⟩
  unfold D.shp at h2
  obtain ⟨_, h4⟩ := Bool.and_eq_true_iff.mp h2
  simp only [D.py] at h4
  unfold SeqAt.shaped
  exact Bool.and_eq_true_iff.mpr ⟨by simp only [PyData.canLay0]; exact k4.lay p3, decide_eq_true (of_decide_eq_true h4)⟩
instance i_inO {K : PySem.W.Frag} {j : Nat} {ta : TE} {ma : M} [A : EvX cl ta ma] : EvX cl (tOp (U.rInU K) ta (tVar j)) (mInO false ma j) := ⟨fun {F H σ s ad d s'} k e Q q => by
  obtain ⟨⟨dx, s1⟩, e1, e⟩ := bind_some e
  dsimp only at e
  split at e
  · rename_i ds h0
    obtain ⟨hs, e⟩ := cond_some e
    cases e
    refine A.run k e1 _ fun v F1 H1 x1 h1 => ?_
    obtain ⟨k1, z1, z2, z3, z4⟩ := inO_run (K := K) x1.ok h0 h1 hs
    exact ⟨_, k1, .inr (.inl ⟨_, _, z1, z2, z3, z4, q _ _ _ x1 (.bl _)⟩)⟩
  · cases e⟩
instance i_niO {K : PySem.W.Frag} {j : Nat} {ta : TE} {ma : M} [A : EvX cl ta ma] : EvX cl (tOp (U.rNiU K) ta (tVar j)) (mInO true ma j) := ⟨fun {F H σ s ad d s'} k e Q q => by
  obtain ⟨⟨dx, s1⟩, e1, e⟩ := bind_some e
  dsimp only at e
  split at e
  · rename_i ds h0
    obtain ⟨hs, e⟩ := cond_some e
    cases e
    refine A.run k e1 _ fun v F1 H1 x1 h1 => ?_
    obtain ⟨k1, z1, z2, z3, z4⟩ := inO_run (K := K) x1.ok h0 h1 hs
    exact ⟨_, k1, .inr (.inl ⟨_, _, z1, z2, z3, z4, q _ _ _ x1 (.bl _)⟩)⟩
  · cases e⟩
/-- an own thing is no more changed: it is a datum from here on -/
def mFix (i : Nat) (b : MS) : MS := fun s => match s[i]? with
  | some (.ow (.lst ds)) => b (s.set i (.fz (.lst ds)))
  | _ => none
instance s_fix {t : TS} {b : MS} {i : Nat} [B : EvS cl t b] : EvS cl t (mFix i b) := ⟨fun {F H σ s ad o s'} k e E q => by
  unfold mFix at e
  split at e
  · rename_i ds h0
    obtain ⟨k1, k2, k3⟩ := k.ow i _ (.lst ds) h0 rfl
    cases h1 : H (ad i) with
    | none => exact absurd h1 k3.nn
    | some ob =>
      rw [h1] at k3
      have li := (List.getElem?_eq_some_iff.mp h0).1
      have e1 : Ex F (upd F (ad i) ob) := Ex.new k2
      have e2 : Ex (upd F (ad i) ob) H := fun a u h => by
        by_cases ha : a = ad i
        · subst ha
          rw [upd_same] at h
          cases h
          exact h1
        · rw [upd_ne ha] at h
          exact k.ex a u h
      have ok2 : Ok cl (upd F (ad i) ob) H σ (s.set i (.fz (.lst ds))) ad := by
        refine ⟨e2, by rw [List.length_set]; exact k.len, fun j f g => ?_, fun j l f g c => ?_, fun j j2 l m f f2 g c g2 c2 ne => ?_, fun j f g => ?_⟩
        · rcases get_set g with ⟨rfl, z⟩ | ⟨z1, z2⟩
          · cases z
            exact ⟨_, k1, Cell.dx k2 k3⟩
          · obtain ⟨v, h1, h2⟩ := k.fz j f z2
            exact ⟨v, h1, h2.mono e1⟩
        · rcases get_set g with ⟨rfl, z⟩ | ⟨z1, z2⟩
          · subst z
            cases c
          · obtain ⟨u1, u2, u3⟩ := k.ow j l f z2 c
            refine ⟨u1, ?_, u3.mono e1⟩
            rw [upd_ne (k.ne j i l _ f (.lst ds) z2 c h0 rfl z1)]
            exact u2
        · rcases get_set g with ⟨rfl, z⟩ | ⟨z1, z2⟩
          · subst z
            cases c
          · rcases get_set g2 with ⟨rfl, z⟩ | ⟨y1, y2⟩
            · subst z
              cases c2
            · exact k.ne j j2 l m f f2 z2 c y2 c2 ne
        · rcases get_set g with ⟨rfl, z⟩ | ⟨z1, z2⟩
          · cases z
          · obtain ⟨u1, u2, u3⟩ := k.rb j f z2
            have k4 := k3
            rw [← h1] at k4
            refine ⟨u1, ?_, u3.mono e1⟩
            rw [upd_ne (rb_own (o := none) u3 k4)]
            exact u2
      have st : Step (own s ad) F H (upd F (ad i) ob) H := ⟨e1, e2, fun a h => ⟨h, fun f n => ⟨fun _ => by rw [upd_ne fun z => n ⟨i, _, .lst ds, h0, rfl, z.symm⟩]; exact f, rfl⟩⟩⟩
      refine B.run ok2 e E (q.after ⟨st, ok2, fun a o => ?_, fun j f g => ?_⟩)
      · obtain ⟨j, l, f, g, c, rfl⟩ := o
        rcases get_set g with ⟨rfl, z⟩ | ⟨z1, z2⟩
        · subst z
          cases c
        · exact .inl ⟨j, l, f, z2, c, rfl⟩
      · have ne : j ≠ i := fun z => by
          subst z
          rw [h0] at g
          cases g
        exact ⟨rfl, f, by rw [List.getElem?_set_ne (Ne.symm ne)]; exact g⟩
  · cases e⟩
end Fr

set_option Elab.async false
set_option linter.all false
set_option maxRecDepth 100000
set_option maxHeartbeats 2000000
namespace Fr
open PySem PySem.Spec PyProof.Rows L2 Evl
variable {cl : PySem.Str → Addr}
/-! ### rules that are wider: texts are walked, dicts are looked into -/
theorem gstr {X : Cx} {x z : PySem.Str} {pos : Pos} (hm : ∃ t, X.mg x = some (.str z t)) (hg : Gl X x := by rfl) (hd : (x == ("__debug__" : PySem.Str)) = false := by decide) : PE X (.Name x pos) (tC (.str z)) := by
  obtain ⟨t, h⟩ := hm
  exact pe_glob hg h ⟨t, rfl⟩ hd
def iAny (K : PySem.W.Frag) (tl : TE) : TI := fun σ H R => U.iSeq K tl σ H R ∨ iStr tl σ H R
def rDIx : R2 := fun x y H Q => ∃ a v, x = .ref a ∧ DGet H a y (some v) ∧ Q v H
def rDIn : R2 := fun x y H Q => ∃ a o, y = .ref a ∧ DGet H a x o ∧ Q (.bl o.isSome) H
def rDNi : R2 := fun x y H Q => ∃ a o, y = .ref a ∧ DGet H a x o ∧ Q (.bl (!o.isSome)) H
def rIxW (K : PySem.W.Frag) : R2 := fun x y H Q => U.rIxU K x y H Q ∨ rDIx x y H Q
def rInW (K : PySem.W.Frag) : R2 := fun x y H Q => U.rInU K x y H Q ∨ rDIn x y H Q
def rNiW (K : PySem.W.Frag) : R2 := fun x y H Q => U.rNiU K x y H Q ∨ rDNi x y H Q
namespace W
section
variable {X : Cx} (K : PySem.W.Frag)
theorem it {tg l : Expr} {tl : TE} (hl : PE X l tl) (h : X.K = K := by rfl) : PI X tg l (iAny K tl) := ⟨fun pins s σ H R I q => by
  rcases q with q | q
  · exact (UK.it K hl h).run pins s σ H R I q
  · exact (pi_str hl).run pins s σ H R I q⟩
theorem ix (hu : X.A.units + 64 < cLine) (h : X.K = K := by rfl) : IxR X (rIxW K) := .or (UK.ix K h) (by
  intro value slice pins s σ H x y v u Q I rx ry q hs
  obtain ⟨a, z, rfl, g, q⟩ := q
  obtain rfl : v = Value.ref a := rx
  exact tail_any (dict_typeIs I g) PySem.F.slot_dict_getitem.lookup (d_getItem (by omega) I g ry fun w' s3 I3 rw' => ⟨z, H, I3, rw', q⟩) hs)
theorem isIn (hv : X.A.units + 65 < cLine) (h : X.K = K := by rfl) : OpR X (compareOp .In) (rInW K) := .or (UK.isIn K hv h) (by
  intro pins s σ H x y v u Q I rx ry q
  obtain ⟨a, o, rfl, g, q⟩ := q
  obtain rfl : u = Value.ref a := ry
  exact d_in (by omega) I g rx fun s3 I3 => ⟨.bl o.isSome, H, I3, rfl, q⟩)
theorem notIn (hv : X.A.units + 65 < cLine) (h : X.K = K := by rfl) : OpR X (compareOp .NotIn) (rNiW K) := .or (UK.notIn K hv h) (by
  intro pins s σ H x y v u Q I rx ry q
  obtain ⟨a, o, rfl, g, q⟩ := q
  obtain rfl : u = Value.ref a := ry
  exact d_notIn (by omega) I g rx fun s3 I3 => ⟨.bl (!o.isSome), H, I3, rfl, q⟩)
end
end W
/-! what they tell -/
def signs (x : PySem.Str) : List D := x.cps.toList.map fun c => .str ⟨#[c]⟩
def D.itemsA : D → Option (List D)
  | .str x => some (signs x)
  | d => d.items
def itA (a : M) : MA := fun s => (a s).bind fun p => p.1.itemsA.map fun ds => (ds, p.2)
instance it_any {K : PySem.W.Frag} {tl : TE} {m : M} [A : EvX cl tl m] : ItX cl (iAny K tl) (itA m) := ⟨fun {F H σ s ad ds s'} k e R q => by
  obtain ⟨⟨d, s1⟩, e1, e⟩ := bind_some e
  obtain ⟨ds1, e2, e⟩ := Option.map_eq_some_iff.mp e
  cases e
  have other : ∀ ds2, d.items = some ds2 → ds2 = ds → iAny K tl σ H R := fun ds2 h1 h2 => by
    subst h2
    refine .inl ((it_seq (cl := cl) (K := K) (tl := tl) (m := m)).run k (s' := s1) ?_ R q)
    unfold itS
    rw [e1]
    show (d.items.map fun ds => (ds, s1)) = _
    rw [h1]
    rfl
  cases d with
  | str x =>
    cases e2
    refine .inr (A.run k e1 _ fun v F1 H1 x1 h1 => ?_)
    cases h1 with
    | str _ hx =>
      have ln : (signs x).length = x.cps.size := by simp [signs]
      have w : Walk (Its x) (signs x).length (fun _ => True) (fun i H v H' => H' = H ∧ ∃ c, x.cps[i]? = some c ∧ v = .str ⟨#[c]⟩) := by
        rw [ln]
        exact walk_str
      refine ⟨x, rfl, q F1 H1 _ _ _ x1 w (fun _ _ _ => trivial) fun i d F2 H2 xv H3 hd y1 y => ?_⟩
      obtain ⟨rfl, c, hc, rfl⟩ := y
      have hc2 : x.cps.toList[i]? = some c := by simpa using hc
      have hd2 : d = .str ⟨#[c]⟩ := by
        unfold signs at hd
        rw [List.getElem?_map, hc2] at hd
        exact (Option.some.inj hd).symm
      subst hd2
      exact ⟨F2, .refl y1.2.1, .str _ (strOk_sign hx (List.mem_of_getElem? hc2))⟩
  | _ => exact other _ e2 rfl⟩
def valZ {κ α : Type} [DecidableEq κ] (ks : List κ) (vs : List α) (k : κ) : Option α := ((ks.zip vs).find? fun p => decide (p.1 = k)).map (·.2)
def D.key : D → Option Key
  | .int i => some (.inl i)
  | .str x => some (.inr x)
  | _ => none
def keysOf : List D → Option (List Key)
  | [] => some []
  | d :: ds => d.key.bind fun k => (keysOf ds).map fun l => k :: l
def D.tkey : D → Option (List Key)
  | .tup ds => keysOf ds
  | _ => none
def dGetO : D → D → Option (Option D)
  | .dk ks vs, k => k.key.map fun x => valZ ks vs x
  | .dt ks vs, k => k.tkey.map fun x => valZ ks vs x
  | _, _ => none
theorem val_dx {κ : Type} [DecidableEq κ] {F : Hp} {k : κ} : ∀ {ks : List κ} {us : List V} {ds : List D}, DxAll cl F us ds → (∀ d, valZ ks ds k = some d → ∃ v, valV (ks.zip us) k = some v ∧ Dx cl F v d) ∧ (valZ ks ds k = none → valV (ks.zip us) k = none)
  | [], us, ds, _ => ⟨fun d h => (by simp [valZ] at h), fun _ => by simp [valV]⟩
  | k0 :: ks, [], _, h => by
    cases h
    exact ⟨fun d h => (by simp [valZ] at h), fun _ => by simp [valV]⟩
  | k0 :: ks, u :: us, _, h => by
    cases h with
    | @cons _ _ d0 ds0 h1 h2 =>
      by_cases e : k0 = k
      · refine ⟨fun d hd => ?_, fun hd => ?_⟩
        · have z : d0 = d := by simpa [valZ, e] using hd
          subst z
          exact ⟨u, by simp [valV, e], h1⟩
        · simp [valZ, e] at hd
      · have z1 : valZ (k0 :: ks) (d0 :: ds0) k = valZ ks ds0 k := by simp [valZ, e]
        have z2 : valV ((k0 :: ks).zip (u :: us)) k = valV (ks.zip us) k := by simp [valV, e]
        rw [z1, z2]
        exact val_dx h2
theorem key_dx {F : Hp} {v : V} {d : D} {k : Key} (h : Dx cl F v d) (e : d.key = some k) : v = kV k := by
  cases h <;> first | (cases e; done) | skip
  · cases e
    rfl
  · cases e
    rfl
theorem keys_dx {F : Hp} : ∀ {vs : List V} {ds : List D} {ks : List Key}, DxAll cl F vs ds → keysOf ds = some ks → vs = ks.map kV
  | _, [], ks, h, e => by
    cases h
    cases e
    rfl
  | _, d :: ds, ks, h, e => by
    cases h with
    | cons h1 h2 =>
      obtain ⟨k, e1, e⟩ := bind_some e
      obtain ⟨l, e2, rfl⟩ := Option.map_eq_some_iff.mp e
      rw [key_dx h1 e1, keys_dx h2 e2]
      rfl
theorem get_dx {F H : Hp} {x y : V} {dx dy : D} {o : Option D} (e : Ex F H) (hx : Dx cl F x dx) (hy : Dx cl F y dy) (k : dGetO dx dy = some o) : ∃ a r, x = .ref a ∧ IsD H a ∧ DGet H a y r ∧ (o = none → r = none) ∧ ∀ d, o = some d → ∃ v, r = some v ∧ Dx cl F v d := by
  cases hx with
  | @dk a ob ks us ds h l da =>
    obtain ⟨kk, k1, rfl⟩ := Option.map_eq_some_iff.mp k
    obtain ⟨z1, z2⟩ := val_dx (k := kk) (ks := ks) da
    have ey := key_dx hy k1
    subst ey
    exact ⟨a, _, rfl, .inl ⟨_, .inr ⟨ob, e _ _ h⟩⟩, .inl ⟨_, kk, .inr ⟨ob, e _ _ h⟩, rfl, rfl⟩, z2, z1⟩
  | @dt a ob ks us ds h l da =>
    obtain ⟨kk, k1, rfl⟩ := Option.map_eq_some_iff.mp k
    obtain ⟨z1, z2⟩ := val_dx (k := kk) (ks := ks) da
    cases hy with
    | @tup b ys es hb db =>
      have ey := keys_dx db k1
      subst ey
      exact ⟨a, _, rfl, .inr ⟨_, .inr ⟨ob, e _ _ h⟩⟩, .inr ⟨_, kk, b, .inr ⟨ob, e _ _ h⟩, rfl, e _ _ hb, rfl⟩, z2, z1⟩
    | _ => cases k1
  | _ => cases k
def dIxW (a b : D) : Option D := match dGetO a b with
  | some o => o
  | none => dIx a b
def inW (a b : D) : Option Bool := match dGetO b a with
  | some o => some o.isSome
  | none => inD a b
def dInW (a b : D) : Option D := (inW a b).map D.bl
def dNiW (a b : D) : Option D := (inW a b).map fun z => .bl (!z)
section
variable {K : PySem.W.Frag}
instance ox_ixW : OpX cl (rIxW K) dIxW := ⟨fun {F H x y dx dy d} e hx hy k Q q => by
  unfold dIxW at k
  split at k
  · rename_i o ho
    obtain ⟨a, r, rfl, _, g, _, z⟩ := get_dx e hx hy ho
    obtain ⟨v, rfl, hv⟩ := z d k
    exact .inr ⟨a, v, rfl, g, q _ _ _ (.refl e) hv⟩
  · exact .inl (ox_ix.run e hx hy k Q q)⟩
theorem isSome_dx {F : Hp} {o : Option D} {r : Option V} (z1 : o = none → r = none) (z2 : ∀ d, o = some d → ∃ v, r = some v ∧ Dx cl F v d) : r.isSome = o.isSome := by
  cases o with
  | none => rw [z1 rfl]; rfl
  | some d =>
    obtain ⟨v, rfl, _⟩ := z2 d rfl
    rfl
instance ox_inW : OpX cl (rInW K) dInW := ⟨fun {F H x y dx dy d} e hx hy k Q q => by
  obtain ⟨b, k1, rfl⟩ := Option.map_eq_some_iff.mp k
  unfold inW at k1
  split at k1
  · rename_i o ho
    cases k1
    obtain ⟨a, r, rfl, _, g, z1, z2⟩ := get_dx e hy hx ho
    exact .inr ⟨a, r, rfl, g, by rw [isSome_dx z1 z2]; exact q _ _ _ (.refl e) (.bl _)⟩
  · exact .inl (ox_in.run e hx hy (by unfold dIn; rw [k1]; rfl) Q q)⟩
instance ox_niW : OpX cl (rNiW K) dNiW := ⟨fun {F H x y dx dy d} e hx hy k Q q => by
  obtain ⟨b, k1, rfl⟩ := Option.map_eq_some_iff.mp k
  unfold inW at k1
  split at k1
  · rename_i o ho
    cases k1
    obtain ⟨a, r, rfl, _, g, z1, z2⟩ := get_dx e hy hx ho
    exact .inr ⟨a, r, rfl, g, by rw [isSome_dx z1 z2]; exact q _ _ _ (.refl e) (.bl _)⟩
  · exact .inl (ox_ni.run e hx hy (by unfold dNi; rw [k1]; rfl) Q q)⟩
end
end Fr

set_option Elab.async false
set_option linter.all false
set_option maxRecDepth 100000
set_option maxHeartbeats 2000000
namespace Fr
open PySem PySem.Spec PyProof.Rows L2 Evl
variable {cl : PySem.Str → Addr}
/-! ### what is never reached; bits; an own list's place; a, b = x, y; targets of three -/
def mStuck : MS := fun _ => none
instance s_never {t : TS} : EvS cl t mStuck := ⟨fun {F H σ s ad o s'} k e E q => by cases e⟩
def mBits (a : M) : M := fun s => (a s).bind fun p => p.1.i.map fun i => (.int (Builtin.Int.intBits i : Nat), p.2)
instance i_bits {ta : TE} {ma : M} [A : EvX cl ta ma] : EvX cl (tBits ta) (mBits ma) := ⟨fun {F H σ s ad d s'} k e Q q => by
  obtain ⟨p, e1, e⟩ := bind_some e
  obtain ⟨i, e3, e⟩ := Option.map_eq_some_iff.mp e
  cases e
  exact A.run k e1 _ fun v F1 H1 x1 h1 => ⟨i, int_of h1 e3, q _ _ _ x1 (.int _)⟩⟩
instance s_retN : EvS cl tRetN mRetN := ⟨fun {F H σ s ad o s'} k e E q => by
  cases e
  exact q .non F H σ ad (.refl k) .non⟩
theorem DxAll.set {F : Hp} {v : V} {d : D} (h : Dx cl F v d) : ∀ {vs : List V} {ds : List D} (n : Nat), DxAll cl F vs ds → DxAll cl F (vs.set n v) (ds.set n d)
  | _, _, _, .nil => .nil
  | _, _, 0, .cons _ a => .cons h a
  | _, _, n + 1, .cons h1 a => .cons h1 (DxAll.set h n a)
def mPutL (j : Nat) (mi me : M) : MS := fun s => (me s).bind fun p => (mi p.2).bind fun r => match cellAt p.2 j, cellAt r.2 j, r.1 with
  | some _, some (.lst ds), .int i => (ixN ds.length i).map fun n => (.nx, setCell r.2 j (.lst (ds.set n p.1)))
  | _, _, _ => none
instance s_putL {j : Nat} {te ti : TE} {me mi : M} [A : EvX cl te me] [B : EvX cl ti mi] : EvS cl (tAsg te (gSub (tVar j) ti rSetL)) (mPutL j mi me) := ⟨fun {F H σ s ad o s'} k e E q => by
  obtain ⟨⟨d, s1⟩, e1, e⟩ := bind_some e
  obtain ⟨⟨di, s2⟩, e2, e⟩ := bind_some e
  dsimp only at e e2
  split at e
  · rename_i _ c0 ds i h0 h1
    obtain ⟨n, e3, e⟩ := Option.map_eq_some_iff.mp e
    cases e
    obtain ⟨l0, hl0, hc0⟩ := cellAt_some h0
    obtain ⟨l1, hl1, hc1⟩ := cellAt_some h1
    refine A.run k e1 _ fun v F1 H1 x1 v1 => ?_
    obtain ⟨k1, _, _⟩ := x1.ok.ow j l0 _ hl0 hc0
    refine ⟨_, k1, B.run x1.ok e2 _ fun u F2 H2 x2 v2 => ?_⟩
    cases v2 with
    | int i =>
      obtain ⟨g1, g2, xs, g3, g4⟩ := x2.ok.ow j l1 _ hl1 hc1
      refine ⟨ad j, xs, i, n, rfl, rfl, g3, by rw [g4.length]; exact e3, ?_⟩
      have w := x2.ok.write hl1 hc1 (o := .lst (xs.set n v)) (e := .lst (ds.set n d)) ⟨_, rfl, g4.set (v1.mono x2.step.ex) n⟩
      rw [setCell_eq hl1] at q
      exact q _ _ _ _ ((x1.trans x2).trans w)
  · cases e⟩
def mPar (i j : Nat) (a : MA) : MS := fun s => (a s).bind fun p => match p.1 with
  | [x, y] => if setOk p.2 i = true then (if setOk (p.2.set i (.fz x)) j = true then some (.nx, (p.2.set i (.fz x)).set j (.fz y)) else none) else none
  | _ => none
instance s_par {i j : Nat} {ta : TA} {ma : MA} [A : EvA cl ta ma] : EvS cl (tPar i j ta) (mPar i j ma) := ⟨fun {F H σ s ad o s'} k e E q => by
  obtain ⟨⟨ds, s1⟩, e1, e⟩ := bind_some e
  dsimp only at e
  split at e
  · rename_i x y
    by_cases hi : setOk s1 i = true
    · rw [if_pos hi] at e
      obtain ⟨hj, e⟩ := cond_some e
      cases e
      refine A.run k e1 _ fun vs F1 H1 x1 h1 => ?_
      cases h1 with
      | cons h1 h2 =>
        cases h2 with
        | cons h3 h4 =>
          cases h4
          refine ⟨_, _, rfl, q F1 H1 _ ad ?_⟩
          have y1 := x1.ok.set hi h1
          exact x1.trans (y1.trans (y1.ok.set hj h3))
    · rw [if_neg hi] at e
      cases e
  · cases e⟩
def tg3 (f g h : D → S → Option S) : D → S → Option S := fun d s => match d with
  | .tup [a, b, c] => (f a s).bind fun s1 => (g b s1).bind fun s2 => h c s2
  | .lst [a, b, c] => none
  | _ => none
instance tg_three {K : PySem.W.Frag} {g1 g2 g3 : TG} {f1 f2 f3 : D → S → Option S} {j1 j2 j3 : List Nat} [A : TgX cl g1 f1 j1] [B : TgX cl g2 f2 j2] [C : TgX cl g3 f3 j3] : TgX cl (gTup K 3 (gCons g1 (gCons g2 (gCons g3 gNil)))) (tg3 f1 f2 f3) (j1 ++ (j2 ++ j3)) := ⟨fun {F H σ s ad v d s'} k h e R q => by
  unfold tg3 at e
  split at e
  · rename_i da db dc
    obtain ⟨s1, e1, e2⟩ := bind_some e
    obtain ⟨s2, e2, e3⟩ := bind_some e2
    cases h with
    | tup ha dd =>
      cases dd with
      | cons h1 dd =>
        cases dd with
        | cons h2 dd =>
          cases dd with
          | cons h3 dd =>
            cases dd
            refine ⟨_, _, rfl, st_of (k.ex _ _ ha), rfl, _, _, rfl, A.run k h1 e1 _ fun σ1 a1 x1 => ⟨_, _, rfl, B.run x1.ok h2 e2 _ fun σ2 a2 x2 => ⟨_, _, rfl, C.run x2.ok h3 e3 _ fun σ3 a3 x3 => ⟨rfl, q _ (a1.trans (a2.trans a3)) (x1.trans (x2.trans x3))⟩⟩⟩⟩
  · cases e
  · cases e⟩
def mAsgG (f : D → S → Option S) (a : M) : MS := fun s => (a s).bind fun p => (f p.1 p.2).map fun s1 => (.nx, s1)
instance s_asgG {te : TE} {g : TG} {f : D → S → Option S} {js : List Nat} {m : M} [A : EvX cl te m] [T : TgX cl g f js] : EvS cl (tAsg te g) (mAsgG f m) := ⟨fun {F H σ s ad o s'} k e E q => by
  obtain ⟨⟨d, s1⟩, e1, e⟩ := bind_some e
  obtain ⟨s2, e2, e⟩ := Option.map_eq_some_iff.mp e
  cases e
  exact A.run k e1 _ fun v F1 H1 x1 h1 => T.run x1.ok h1 e2 _ fun σ2 _ x2 => q F1 H1 σ2 ad (x1.trans x2)⟩
/-! ### dicts -/
section
variable {κ α β : Type} [DecidableEq κ]
def putZ (ks : List κ) (vs : List α) (k : κ) (v : α) : List κ × List α := if k ∈ ks then (ks, (ks.zip vs).map fun p => if p.1 = k then v else p.2) else (ks ++ [k], vs ++ [v])
theorem any_zip {ks : List κ} {k : κ} : ∀ {us : List α}, ks.length = us.length → ((ks.zip us).any fun kv => decide (kv.1 = k)) = decide (k ∈ ks) := by
  induction ks with
  | nil => intro us _; simp
  | cons k0 ks ih =>
    intro us h
    cases us with
    | nil => cases h
    | cons u us =>
      have h2 := ih (us := us) (by simpa using h)
      simp only [List.zip_cons_cons, List.any_cons, h2, List.mem_cons]
      by_cases e : k0 = k
      · simp [e]
      · have e2 : ¬ k = k0 := fun z => e z.symm
        simp [e, e2]
theorem map_zip {ks : List κ} {k : κ} {v : α} : ∀ {us : List α}, ks.length = us.length → ((ks.zip us).map fun kv => if kv.1 = k then (kv.1, v) else kv) = ks.zip ((ks.zip us).map fun p => if p.1 = k then v else p.2) := by
  induction ks with
  | nil => intro us _; simp
  | cons k0 ks ih =>
    intro us h
    cases us with
    | nil => cases h
    | cons u us =>
      have h2 := ih (us := us) (by simpa using h)
      simp only [List.zip_cons_cons, List.map_cons, h2]
      by_cases e : k0 = k
      · simp [e]
      · simp [e]
theorem zip_snoc {ks : List κ} {us : List α} (h : ks.length = us.length) (k : κ) (v : α) : (ks ++ [k]).zip (us ++ [v]) = ks.zip us ++ [(k, v)] := by
  rw [List.zip_append h]
  rfl
end
theorem putK_zip {κ : Type} [DecidableEq κ] {ks : List κ} {us : List V} {k : κ} {v : V} (h : ks.length = us.length) : putK (ks.zip us) k v = (putZ ks us k v).1.zip (putZ ks us k v).2 ∧ (putZ ks us k v).1.length = (putZ ks us k v).2.length := by
  unfold putK putZ
  rw [any_zip h]
  by_cases e : k ∈ ks
  · rw [if_pos (decide_eq_true e), if_pos e]
    exact ⟨map_zip h, by simp [h]⟩
  · rw [if_neg (by simpa using e), if_neg e]
    exact ⟨(zip_snoc h k v).symm, by simp [h]⟩
theorem put_dx {κ : Type} [DecidableEq κ] {F : Hp} {k : κ} {v : V} {d : D} (h : Dx cl F v d) {ks : List κ} : ∀ {us : List V} {ds : List D}, DxAll cl F us ds → (putZ ks us k v).1 = (putZ ks ds k d).1 ∧ DxAll cl F (putZ ks us k v).2 (putZ ks ds k d).2 := fun {us ds} a => by
  unfold putZ
  by_cases e : k ∈ ks
  · rw [if_pos e, if_pos e]
    refine ⟨rfl, ?_⟩
    clear e
    show DxAll cl F ((ks.zip us).map fun p => if p.1 = k then v else p.2) ((ks.zip ds).map fun p => if p.1 = k then d else p.2)
    induction ks generalizing us ds with
    | nil => exact .nil
    | cons k0 ks ih =>
      cases a with
      | nil => exact .nil
      | cons h1 h2 =>
        simp only [List.zip_cons_cons, List.map_cons]
        refine .cons ?_ (ih h2)
        by_cases e : k0 = k
        · rw [if_pos e, if_pos e]
          exact h
        · rw [if_neg e, if_neg e]
          exact h1
  · rw [if_neg e, if_neg e]
    exact ⟨rfl, a.app (.cons h .nil)⟩
theorem key_ok {F : Hp} {v : V} {d : D} {k : Key} (h : Dx cl F v d) (e : d.key = some k) : kOk k = true := by
  cases h with
  | int i => cases e; rfl
  | str x hx => cases e; exact hx
  | _ => cases e
theorem keys_ok {F : Hp} : ∀ {vs : List V} {ds : List D} {ks : List Key}, DxAll cl F vs ds → keysOf ds = some ks → ks.all kOk = true
  | _, [], ks, h, e => by
    cases e
    rfl
  | _, d :: ds, ks, h, e => by
    cases h with
    | cons h1 h2 =>
      obtain ⟨k, e1, e⟩ := bind_some e
      obtain ⟨l, e2, rfl⟩ := Option.map_eq_some_iff.mp e
      rw [List.all_cons, key_ok h1 e1, keys_ok h2 e2]
      rfl
theorem putZ_all {κ α : Type} [DecidableEq κ] {p : κ → Bool} {ks : List κ} {vs : List α} {k : κ} {v : α} (h : ks.all p = true) (hk : p k = true) : (putZ ks vs k v).1.all p = true := by
  unfold putZ
  split
  · exact h
  · rw [List.all_append, h]
    simp [hk]
def dPut (c k v : D) : Option D := match c with
  | .dk ks vs => k.key.bind fun x => if ks.length < 100000 then some (.dk (putZ ks vs x v).1 (putZ ks vs x v).2) else none
  | .dt ks vs => k.tkey.bind fun x => if ks.length < 100000 then some (.dt (putZ ks vs x v).1 (putZ ks vs x v).2) else none
  | _ => none
/-- d[k] = v, d own -/
def mPutD (j : Nat) (mk mv : M) : MS := fun s => (mv s).bind fun p => (cellAt p.2 j).bind fun _ => (mk p.2).bind fun r => (cellAt r.2 j).bind fun c => (dPut c r.1 p.1).map fun c2 => (.nx, setCell r.2 j c2)
instance s_putD {j : Nat} {tk tv : TE} {mk mv : M} [A : EvX cl tk mk] [B : EvX cl tv mv] : EvS cl (sDPut (tVar j) tk tv) (mPutD j mk mv) := ⟨fun {F H σ s ad o s'} k e E q => by
  obtain ⟨⟨d, s1⟩, e1, e⟩ := bind_some e
  obtain ⟨c0, h0, e⟩ := bind_some e
  obtain ⟨⟨dk, s2⟩, e2, e⟩ := bind_some e
  obtain ⟨c, h1, e⟩ := bind_some e
  obtain ⟨c2, e3, e⟩ := Option.map_eq_some_iff.mp e
  cases e
  obtain ⟨l0, hl0, hc0⟩ := cellAt_some h0
  obtain ⟨l1, hl1, hc1⟩ := cellAt_some h1
  refine B.run k e1 _ fun v F1 H1 x1 v1 => ?_
  obtain ⟨k1, _, _⟩ := x1.ok.ow j l0 _ hl0 hc0
  refine ⟨_, k1, A.run x1.ok e2 _ fun u F2 H2 x2 v2 => ?_⟩
  obtain ⟨g1, g2, g3⟩ := x2.ok.ow j l1 _ hl1 hc1
  have v3 := v1.mono x2.step.ex
  rw [setCell_eq hl1] at q
  cases c with
  | dk ks vs =>
    obtain ⟨kk, f1, e3⟩ := bind_some e3
    obtain ⟨hz, rfl⟩ := cond_some e3
    obtain ⟨us, g4, g5, g6⟩ := g3
    have ey := key_dx v2 f1
    have v2' := v2
    subst ey
    obtain ⟨z1, z2⟩ := putK_zip (k := kk) (v := v) g5.1
    obtain ⟨z3, z4⟩ := put_dx (ks := ks) (k := kk) v3 g6
    refine ⟨ad j, _, rfl, DPut.k g4 (sz_lt (by rw [zip_len g5.1]; exact hz)), ?_⟩
    have w := x2.ok.write hl1 hc1 (o := .dK (putK (ks.zip us) kk v)) (e := .dk (putZ ks vs kk d).1 (putZ ks vs kk d).2) ⟨_, by rw [z1, z3], ⟨by rw [← z3]; exact z2, putZ_all g5.2 (key_ok v2 f1)⟩, z4⟩
    exact q _ _ _ _ ((x1.trans x2).trans w)
  | dt ks vs =>
    obtain ⟨kk, f1, e3⟩ := bind_some e3
    obtain ⟨hz, rfl⟩ := cond_some e3
    obtain ⟨us, g4, g5, g6⟩ := g3
    cases v2 with
    | @tup b ys es hb db =>
      have ey := keys_dx db f1
      subst ey
      obtain ⟨z1, z2⟩ := putK_zip (k := kk) (v := v) g5.1
      obtain ⟨z3, z4⟩ := put_dx (ks := ks) (k := kk) v3 g6
      refine ⟨ad j, _, rfl, DPut.t g4 (x2.ok.ex _ _ hb) (sz_lt (by rw [zip_len g5.1]; exact hz)), ?_⟩
      have w := x2.ok.write hl1 hc1 (o := .dT (putK (ks.zip us) kk v)) (e := .dt (putZ ks vs kk d).1 (putZ ks vs kk d).2) ⟨_, by rw [z1, z3], ⟨by rw [← z3]; exact z2, putZ_all (p := fun l : List Key => l.all kOk) g5.2 (keys_ok db f1)⟩, z4⟩
      exact q _ _ _ _ ((x1.trans x2).trans w)
    | _ => cases f1
  | _ => cases e3⟩
def mDNew : M := fun s => some (.dk [] [], s)
def mDNewT : M := fun s => some (.dt [] [], s)
instance n_dnewK : EvN cl tDNewK mDNew := ⟨fun {F H σ s ad d s'} k e Q q => by
  cases e
  intro p hp
  have st : Step (fun _ => False) F H F (upd H p (.dK [])) := .newM k.ex hp
  exact q p _ _ hp (ex_none k.ex hp) (fun a o z => (own_some k o).1 (z ▸ hp)) (.step0 k st) ⟨[], upd_same, ⟨rfl, rfl⟩, .nil⟩⟩
instance n_dnewT : EvN cl tDNewT mDNewT := ⟨fun {F H σ s ad d s'} k e Q q => by
  cases e
  intro p hp
  have st : Step (fun _ => False) F H F (upd H p (.dT [])) := .newM k.ex hp
  exact q p _ _ hp (ex_none k.ex hp) (fun a o z => (own_some k o).1 (z ▸ hp)) (.step0 k st) ⟨[], upd_same, ⟨rfl, rfl⟩, .nil⟩⟩
/-- d.get(k, x) -/
def mGet2 (md mk mx : M) : M := fun s => (md s).bind fun p => (mk p.2).bind fun r => (mx r.2).bind fun z => (dGetO p.1 r.1).map fun o => (o.getD z.1, z.2)
instance i_get2 {td tk tx : TE} {md mk mx : M} [A : EvX cl td md] [B : EvX cl tk mk] [C : EvX cl tx mx] : EvX cl (tDGet2 td tk tx) (mGet2 md mk mx) := ⟨fun {F H σ s ad d s'} k e Q q => by
  obtain ⟨⟨d1, s1⟩, e1, e⟩ := bind_some e
  obtain ⟨⟨d2, s2⟩, e2, e⟩ := bind_some e
  obtain ⟨⟨d3, s3⟩, e3, e⟩ := bind_some e
  obtain ⟨o, e4, e⟩ := Option.map_eq_some_iff.mp e
  cases e
  refine A.run k e1 _ fun v F1 H1 x1 h1 => ?_
  obtain ⟨a, rfl, hD⟩ : ∃ a, v = .ref a ∧ IsD H1 a := by
    cases h1 with
    | dk ha _ _ => exact ⟨_, rfl, .inl ⟨_, .inr ⟨_, x1.ok.ex _ _ ha⟩⟩⟩
    | dt ha _ _ => exact ⟨_, rfl, .inr ⟨_, .inr ⟨_, x1.ok.ex _ _ ha⟩⟩⟩
    | _ => cases e4
  refine ⟨a, rfl, hD, B.run x1.ok e2 _ fun u F2 H2 x2 h2 => C.run x2.ok e3 _ fun z F3 H3 x3 h3 => ?_⟩
  have x := (x1.trans x2).trans x3
  obtain ⟨a', r, ea, _, g, z1, z2⟩ := get_dx x.ok.ex (h1.mono (x2.trans x3).step.ex) (h2.mono x3.step.ex) e4
  cases ea
  refine ⟨r, g, ?_⟩
  cases o with
  | none =>
    rw [z1 rfl]
    exact q _ _ _ x h3
  | some dd =>
    obtain ⟨vv, rfl, hv⟩ := z2 dd rfl
    exact q _ _ _ x hv⟩
end Fr

set_option Elab.async false
set_option linter.all false
set_option maxRecDepth 100000
set_option maxHeartbeats 2000000
namespace Fr
open PySem PySem.Spec PyProof.Rows L2 Evl
variable {cl : PySem.Str → Addr}
/-! ### a dict that is changed no more -/
def tFrz (te : TE) : TE := fun σ H Q => te σ H fun v H1 => ∃ d u, v = .ref d ∧ H1 d = some u ∧ Mut (some u) ∧ ∀ od, Q v (upd H1 d (.frz od u))
def tFrzS (i : Nat) (t : TS) : TS := fun D σ H => ∃ d u, σ[i]? = some (some (.ref d)) ∧ H d = some u ∧ Mut (some u) ∧ ∀ od, t D σ (upd H d (.frz od u))
theorem pe_frz {X : Cx} {e : Expr} {te : TE} (h : PE X e te) : PE X e (tFrz te) := by
  refine ⟨fun pins s σ H Q I hw => ?_⟩
  refine thn (h.run pins s σ H _ I hw) fun v s1 ⟨x, H1, I1, r, d, u, ex, hd, mu, q⟩ => ?_
  obtain ⟨od, I2⟩ := I1.lock hd mu
  exact ⟨x, _, I2, r, q od⟩
theorem pss_frz {X : Cx} {i : Nat} {body : List Stmt} {t : TS} (h : PSs X body t) : PSs X body (tFrzS i t) := by
  refine ⟨fun pins s σ H D I hw => ?_⟩
  obtain ⟨d, u, _, hd, mu, hw⟩ := hw
  obtain ⟨od, I1⟩ := I.lock hd mu
  exact h.run pins s σ _ D I1 (hw od)
def mFrz (a : M) : M := fun s => (a s).bind fun p => match p.1 with
  | .dk ks vs => some (.dk ks vs, p.2)
  | .dt ks vs => some (.dt ks vs, p.2)
  | _ => none
theorem frz_po {F H F1 H1 : Hp} {σ : L2.St} {s s' : S} {ad : Nat → Addr} {p : Addr} {o : HO} (hz : ∀ od u, H1 p ≠ some (.frz od u)) (hn : H p = none) (f1 : F1 p = none) (np : ∀ a, own s' ad a → a ≠ p) (x1 : Po cl F H s ad F1 H1 σ s' ad) : Po cl F H s ad (upd F1 p o) (upd H1 p o) σ s' ad := by
  have e1 : Ex F1 (upd F1 p o) := Ex.new f1
  have e2 : Ex (upd F1 p o) (upd H1 p o) := fun a u h => by
    by_cases ha : a = p
    · subst ha
      rw [upd_same] at h ⊢
      exact h
    · rw [upd_ne ha] at h ⊢
      exact x1.ok.ex a u h
  refine ⟨⟨x1.step.ex.trans e1, e2, fun a h => ?_⟩, ⟨e2, x1.ok.len, fun i d g => ?_, fun i l d g c => ?_, x1.ok.ne, fun i d g => ?_⟩, x1.sub, x1.pms⟩
  · have ne : a ≠ p := fun z => h (z ▸ hn)
    rw [upd_ne ne, upd_ne ne]
    exact x1.step.2.2 a h
  · obtain ⟨v, h1, h2⟩ := x1.ok.fz i d g
    exact ⟨v, h1, h2.mono e1⟩
  · obtain ⟨h1, h2, h3⟩ := x1.ok.ow i l d g c
    have ne := np _ ⟨i, l, d, g, c, rfl⟩
    rw [upd_ne ne, upd_ne ne]
    exact ⟨h1, h2, h3.mono e1⟩
  · obtain ⟨h1, h2, h3⟩ := x1.ok.rb i d g
    have ne : ad i ≠ p := fun z => by
      obtain ⟨od, u, h4, _⟩ := h3
      rw [z] at h4
      exact hz _ _ h4
    rw [upd_ne ne, upd_ne ne]
    exact ⟨h1, h2, h3.mono e1⟩
instance i_frz {te : TE} {m : M} [A : EvN cl te m] : EvX cl (tFrz te) (mFrz m) := ⟨fun {F H σ s ad d s'} k e Q q => by
  obtain ⟨⟨d0, s1⟩, e1, e⟩ := bind_some e
  dsimp only at e
  split at e
  · rename_i ks vs
    cases e
    refine A.run k e1 _ fun p F1 H1 hn f1 np x1 c1 => ?_
    obtain ⟨us, h1, h2, h3⟩ := c1
    exact ⟨p, _, rfl, h1, trivial, fun od => q _ _ _ (frz_po (by rw [h1]; exact fun _ _ z => nomatch z) hn f1 np x1) (.dk upd_same h2 (h3.mono (Ex.new f1)))⟩
  · rename_i ks vs
    cases e
    refine A.run k e1 _ fun p F1 H1 hn f1 np x1 c1 => ?_
    obtain ⟨us, h1, h2, h3⟩ := c1
    exact ⟨p, _, rfl, h1, trivial, fun od => q _ _ _ (frz_po (by rw [h1]; exact fun _ _ z => nomatch z) hn f1 np x1) (.dt upd_same h2 (h3.mono (Ex.new f1)))⟩
  · cases e⟩
def mFixD (i : Nat) (b : MS) : MS := fun s => match s[i]? with
  | some (.ow (.dk ks vs)) => b (s.set i (.fz (.dk ks vs)))
  | some (.ow (.dt ks vs)) => b (s.set i (.fz (.dt ks vs)))
  | _ => none
theorem fixD_po {F H : Hp} {σ : L2.St} {s : S} {ad : Nat → Addr} {i : Nat} {d : D} {o : HO} (k : Ok cl F H σ s ad) (h0 : s[i]? = some (.ow d)) (hd : Dx cl (upd F (ad i) o) (.ref (ad i)) d) : Po cl F H s ad (upd F (ad i) o) (upd H (ad i) o) σ (s.set i (.fz d)) ad := by
  obtain ⟨k1, k2, k3⟩ := k.ow i _ d h0 rfl
  have e1 : Ex F (upd F (ad i) o) := Ex.new k2
  have e2 : Ex (upd F (ad i) o) (upd H (ad i) o) := fun a u h => by
    by_cases ha : a = ad i
    · subst ha
      rw [upd_same] at h ⊢
      exact h
    · rw [upd_ne ha] at h ⊢
      exact k.ex a u h
  refine ⟨⟨e1, e2, fun a h => ?_⟩, ⟨e2, by rw [List.length_set]; exact k.len, fun j f g => ?_, fun j l f g c => ?_, fun j j2 l m f f2 g c g2 c2 ne => ?_, fun j f g => ?_⟩, fun a o => ?_, fun j f g => ?_⟩
  · by_cases ha : a = ad i
    · subst ha
      rw [upd_same, upd_same]
      exact ⟨fun z => (nomatch z), fun f n => absurd ⟨i, _, d, h0, rfl, rfl⟩ n⟩
    · rw [upd_ne ha, upd_ne ha]
      exact ⟨h, fun f _ => ⟨fun _ => f, rfl⟩⟩
  · rcases get_set g with ⟨rfl, z⟩ | ⟨z1, z2⟩
    · cases z
      exact ⟨_, k1, hd⟩
    · obtain ⟨v, h1, h2⟩ := k.fz j f z2
      exact ⟨v, h1, h2.mono e1⟩
  · rcases get_set g with ⟨rfl, z⟩ | ⟨z1, z2⟩
    · subst z
      cases c
    · obtain ⟨u1, u2, u3⟩ := k.ow j l f z2 c
      have ne := k.ne j i l _ f d z2 c h0 rfl z1
      rw [upd_ne ne, upd_ne ne]
      exact ⟨u1, u2, u3.mono e1⟩
  · rcases get_set g with ⟨rfl, z⟩ | ⟨z1, z2⟩
    · subst z
      cases c
    · rcases get_set g2 with ⟨rfl, z⟩ | ⟨y1, y2⟩
      · subst z
        cases c2
      · exact k.ne j j2 l m f f2 z2 c y2 c2 ne
  · rcases get_set g with ⟨rfl, z⟩ | ⟨z1, z2⟩
    · cases z
    · obtain ⟨u1, u2, u3⟩ := k.rb j f z2
      have ne := rb_own (o := none) u3 k3
      rw [upd_ne ne, upd_ne ne]
      exact ⟨u1, u2, u3.mono e1⟩
  · obtain ⟨j, l, f, g, c, rfl⟩ := o
    rcases get_set g with ⟨rfl, z⟩ | ⟨z1, z2⟩
    · subst z
      cases c
    · exact .inl ⟨j, l, f, z2, c, rfl⟩
  · have ne : j ≠ i := fun z => by
      subst z
      rw [h0] at g
      cases g
    exact ⟨rfl, f, by rw [List.getElem?_set_ne (Ne.symm ne)]; exact g⟩
instance s_fixD {t : TS} {b : MS} {i : Nat} [B : EvS cl t b] : EvS cl (tFrzS i t) (mFixD i b) := ⟨fun {F H σ s ad o s'} k e E q => by
  unfold mFixD at e
  split at e
  · rename_i ks vs h0
    obtain ⟨k1, k2, us, k3, k4, k5⟩ := k.ow i _ _ h0 rfl
    refine ⟨ad i, _, k1, k3, trivial, fun od => ?_⟩
    have y := fixD_po k h0 (o := .frz od (.dK (ks.zip us))) (.dk upd_same k4 (k5.mono (Ex.new k2)))
    exact B.run y.ok e E (q.after y)
  · rename_i ks vs h0
    obtain ⟨k1, k2, us, k3, k4, k5⟩ := k.ow i _ _ h0 rfl
    refine ⟨ad i, _, k1, k3, trivial, fun od => ?_⟩
    have y := fixD_po k h0 (o := .frz od (.dT (ks.zip us))) (.dt upd_same k4 (k5.mono (Ex.new k2)))
    exact B.run y.ok e E (q.after y)
  · cases e⟩
/-! ### keys walked -/
def kD : Key → D
  | .inl i => .int i
  | .inr x => .str x
theorem kD_dx {F : Hp} {k : Key} (h : kOk k = true) : Dx cl F (kV k) (kD k) := by
  cases k with
  | inl i => exact .int i
  | inr x => exact .str x h
theorem kDs_dx {F : Hp} : ∀ {ks : List Key}, ks.all kOk = true → DxAll cl F (ks.map kV) (ks.map kD)
  | [], _ => .nil
  | k :: ks, h => by
    rw [List.all_cons, Bool.and_eq_true] at h
    exact .cons (kD_dx h.1) (kDs_dx h.2)
def D.keysD : D → Option (List D)
  | .dk ks _ => some (ks.map kD)
  | .dt ks _ => some (ks.map fun l => .tup (l.map kD))
  | _ => none
def itK (a : M) : MA := fun s => (a s).bind fun p => p.1.keysD.map fun ds => (ds, p.2)
theorem zip_at {κ α : Type} {ks : List κ} {us : List α} {i : Nat} {k : κ} {v : α} (h : (ks.zip us)[i]? = some (k, v)) : ks[i]? = some k := by
  rw [List.getElem?_zip_eq_some] at h
  exact h.1
theorem tup_known {F1 H1 : Hp} {a : Addr} {xs : List V} (e : Ex F1 H1) (h : H1 a = some (.tup xs)) : ∃ F2, Step (fun _ => False) F1 H1 F2 H1 ∧ F2 a = some (.tup xs) := by
  cases q : F1 a with
  | some o =>
    have z := e a o q
    rw [h] at z
    cases z
    exact ⟨F1, .refl e, q⟩
  | none =>
    refine ⟨upd F1 a (.tup xs), ⟨Ex.new q, fun b u hb => ?_, fun b hb => ⟨hb, fun f _ => ⟨fun t => ?_, rfl⟩⟩⟩, upd_same⟩
    · by_cases hba : b = a
      · subst hba
        rw [upd_same] at hb
        cases hb
        exact h
      · rw [upd_ne hba] at hb
        exact e b u hb
    · by_cases hba : b = a
      · subst hba
        exact absurd h (t xs)
      · rw [upd_ne hba]
        exact f
instance it_keys {td : TE} {m : M} [A : EvX cl td m] : ItX cl (iKeys td) (itK m) := ⟨fun {F H σ s ad ds s'} k e R q => by
  obtain ⟨⟨d, s1⟩, e1, e⟩ := bind_some e
  obtain ⟨ds1, e2, e⟩ := Option.map_eq_some_iff.mp e
  cases e
  refine A.run k e1 _ fun v F1 H1 x1 h1 => ?_
  cases h1 with
  | @dk a ob ks us vs h l da =>
    cases e2
    have w := walk_keys (d := a) (o := ob) (kvs := ks.zip us)
    have ln : (ks.map kD).length = (ks.zip us).length := by rw [zip_len l.1, List.length_map]
    rw [← ln] at w
    refine ⟨a, ob, rfl, .inl ⟨_, x1.ok.ex _ _ h, q F1 H1 _ _ _ x1 w (fun F2 H2 y1 => y1.2.1 _ _ (y1.1 _ _ h)) fun i d F2 H2 x H3 hd y1 y => ?_⟩⟩
    obtain ⟨rfl, kk, vv, hk, rfl⟩ := y
    have hk2 := zip_at hk
    rw [List.getElem?_map, hk2] at hd
    cases hd
    exact ⟨F2, .refl y1.2.1, kD_dx (List.all_eq_true.mp l.2 _ (List.mem_of_getElem? hk2))⟩
  | @dt a ob ks us vs h l da =>
    cases e2
    have w := walk_keysT (d := a) (o := ob) (kvs := ks.zip us)
    have ln : (ks.map fun l => D.tup (l.map kD)).length = (ks.zip us).length := by rw [zip_len l.1, List.length_map]
    rw [← ln] at w
    refine ⟨a, ob, rfl, .inr ⟨_, x1.ok.ex _ _ h, q F1 H1 _ _ _ x1 w (fun F2 H2 y1 => y1.2.1 _ _ (y1.1 _ _ h)) fun i d F2 H2 x H3 hd y1 y => ?_⟩⟩
    obtain ⟨rfl, kk, vv, b, hk, rfl, hb⟩ := y
    have hk2 := zip_at hk
    rw [List.getElem?_map, hk2] at hd
    cases hd
    obtain ⟨F3, st, hF⟩ := tup_known y1.2.1 hb
    exact ⟨F3, st, .tup hF (kDs_dx (List.all_eq_true.mp l.2 _ (List.mem_of_getElem? hk2)))⟩
  | _ => cases e2⟩
end Fr

set_option Elab.async false
set_option linter.all false
set_option maxRecDepth 100000
set_option maxHeartbeats 2000000
namespace Fr
open PySem PySem.Spec PyProof.Rows L2 Evl RZ
variable {cl : PySem.Str → Addr}
/-! ### list(x), tuple(x), dict(x) -/
def rListW (K : PySem.W.Frag) : List V → Hp → VK → Prop := fun xs H Q => (∃ p ys, xs = [.ref p] ∧ (SqL K H p ys ∨ SqT K H p ys) ∧ ∀ l, H l = none → Q (.ref l) (upd H l (.lst ys))) ∨ ∃ (a : Addr) (kvs : List (Key × V)), xs = [.ref a] ∧ Rd H a (.dK kvs) ∧ ∀ p, H p = none → Q (.ref p) (upd H p (.lst (kvs.map fun kv => kV kv.1)))
def rTupW (K : PySem.W.Frag) : List V → Hp → VK → Prop := fun xs H Q => ∃ p ys, xs = [.ref p] ∧ ((SqL K H p ys ∧ ∀ l, H l = none → Q (.ref l) (upd H l (.tup ys))) ∨ (SqT K H p ys ∧ Q (.ref p) H))
def rDictW : List V → Hp → VK → Prop := fun xs H Q => ∃ (a : Addr) (kvs : List (Key × V)), xs = [.ref a] ∧ Rd H a (.dK kvs) ∧ ∀ p, H p = none → Q (.ref p) (upd H p (.dK kvs))
namespace W
section
variable {X : Cx} (K : PySem.W.Frag)
theorem c_list (h : X.K = K := by rfl) (hc : X.calm = true := by rfl) : CallR X (.type "list") (rListW K) := h ▸ .or call_list_of (call_listD hc)
theorem c_tuple (h : X.K = K := by rfl) : CallR X (.type "tuple") (rTupW K) := h ▸ call_tuple_of
theorem c_dict : CallR X (.type "dict") rDictW := call_dictD
end
end W
theorem back_none {F H F1 H1 : Hp} {s s1 : S} {ad ad1 : Nat → Addr} {σ1 : L2.St} {p : Addr} (x1 : Po cl F H s ad F1 H1 σ1 s1 ad1) (hp : H1 p = none) : H p = none := by
  cases z : H p with
  | none => rfl
  | some o => exact absurd hp (x1.step.2.2 p (by rw [z]; exact fun z => nomatch z)).1
def mListC (a : M) : M := fun s => (a s).bind fun p => match p.1 with
  | .lst ds => some (.lst ds, p.2)
  | .tup ds => some (.lst ds, p.2)
  | .dk ks _ => some (.lst (ks.map kD), p.2)
  | _ => none
theorem zip_keys {ks : List Key} {us : List V} (h : ks.length = us.length) : ((ks.zip us).map fun kv => kV kv.1) = ks.map kV := by
  have z : (ks.zip us).map Prod.fst = ks := List.map_fst_zip (by omega)
  calc ((ks.zip us).map fun kv => kV kv.1) = ((ks.zip us).map Prod.fst).map kV := by rw [List.map_map]; rfl
    _ = ks.map kV := by rw [z]
instance n_listC {K : PySem.W.Frag} {ta : TE} {ma : M} [A : EvX cl ta ma] : EvN cl (tCB (rListW K) (tCons ta tNil)) (mListC ma) := ⟨fun {F H σ s ad d s'} k e Q q => by
  obtain ⟨⟨d0, s1⟩, e1, e⟩ := bind_some e
  refine A.run k e1 _ fun v F1 H1 x1 h1 => ?_
  have fin : ∀ {p : Addr} {ys : List V} {ds : List D}, DxAll cl F1 ys ds → d = .lst ds → s1 = s' → H1 p = none → Q (.ref p) (upd H1 p (.lst ys)) := fun {p ys ds} da ed es hp => by
    subst ed es
    have st : Step (fun _ => False) F1 H1 F1 (upd H1 p (.lst ys)) := .newM x1.ok.ex hp
    exact q p _ _ (back_none x1 hp) (ex_none x1.ok.ex hp) (fun a o z => (own_some x1.ok o).1 (z ▸ hp)) (x1.trans (.step0 x1.ok st)) ⟨ys, upd_same, da⟩
  cases h1 with
  | @lst a xs ds ha da =>
    cases e
    exact .inl ⟨a, xs, rfl, .inl (sq_of (x1.ok.ex _ _ ha)), fun l hl => fin da rfl rfl hl⟩
  | @tup a xs ds ha da =>
    cases e
    exact .inl ⟨a, xs, rfl, .inr (st_of (x1.ok.ex _ _ ha)), fun l hl => fin da rfl rfl hl⟩
  | @dk a ob ks us vs ha l da =>
    cases e
    refine .inr ⟨a, _, rfl, .inr ⟨ob, x1.ok.ex _ _ ha⟩, fun p hp => ?_⟩
    rw [zip_keys l.1]
    exact fin (kDs_dx l.2) rfl rfl hp
  | _ => cases e⟩
instance i_listC {K : PySem.W.Frag} {ta : TE} {ma : M} [A : EvX cl ta ma] : EvX cl (tCB (rListW K) (tCons ta tNil)) (mListC ma) := EvN.toX fun {s d s'} e => by
  obtain ⟨p, _, e⟩ := bind_some e
  split at e <;> first | (cases e; exact ⟨_, rfl⟩) | cases e
def mTupC (a : M) : M := fun s => (a s).bind fun p => match p.1 with
  | .lst ds => some (.tup ds, p.2)
  | .tup ds => some (.tup ds, p.2)
  | _ => none
instance i_tupC {K : PySem.W.Frag} {ta : TE} {ma : M} [A : EvX cl ta ma] : EvX cl (tCB (rTupW K) (tCons ta tNil)) (mTupC ma) := ⟨fun {F H σ s ad d s'} k e Q q => by
  obtain ⟨⟨d0, s1⟩, e1, e⟩ := bind_some e
  refine A.run k e1 _ fun v F1 H1 x1 h1 => ?_
  cases h1 with
  | @lst a xs ds ha da =>
    cases e
    refine ⟨a, xs, rfl, .inl ⟨sq_of (x1.ok.ex _ _ ha), fun p hp => ?_⟩⟩
    have st : Step (fun _ => False) F1 H1 (upd F1 p (.tup xs)) (upd H1 p (.tup xs)) := .new x1.ok.ex hp
    exact q _ _ _ (x1.trans (.step0 x1.ok st)) (.tup upd_same (da.mono st.ex))
  | @tup a xs ds ha da =>
    cases e
    exact ⟨a, xs, rfl, .inr ⟨st_of (x1.ok.ex _ _ ha), q _ _ _ x1 (.tup ha da)⟩⟩
  | _ => cases e⟩
def mDictC (a : M) : M := fun s => (a s).bind fun p => match p.1 with
  | .dk ks vs => some (.dk ks vs, p.2)
  | _ => none
instance n_dictC {ta : TE} {ma : M} [A : EvX cl ta ma] : EvN cl (tCB rDictW (tCons ta tNil)) (mDictC ma) := ⟨fun {F H σ s ad d s'} k e Q q => by
  obtain ⟨⟨d0, s1⟩, e1, e⟩ := bind_some e
  refine A.run k e1 _ fun v F1 H1 x1 h1 => ?_
  cases h1 with
  | @dk a ob ks us vs ha l da =>
    cases e
    refine ⟨a, _, rfl, .inr ⟨ob, x1.ok.ex _ _ ha⟩, fun p hp => ?_⟩
    have st : Step (fun _ => False) F1 H1 F1 (upd H1 p (.dK (ks.zip us))) := .newM x1.ok.ex hp
    exact q p _ _ (back_none x1 hp) (ex_none x1.ok.ex hp) (fun a o z => (own_some x1.ok o).1 (z ▸ hp)) (x1.trans (.step0 x1.ok st)) ⟨us, upd_same, l, da⟩
  | _ => cases e⟩
/-! ### an own dict looked into -/
theorem cell_get {F H : Hp} {a : Addr} {y : V} {c dy : D} {o : Option D} (e : Ex F H) (hc : Cell cl F (H a) c) (hy : Dx cl F y dy) (k : dGetO c dy = some o) : IsD H a ∧ ∃ r, DGet H a y r ∧ (o = none → r = none) ∧ ∀ d, o = some d → ∃ v, r = some v ∧ Dx cl F v d := by
  cases c with
  | dk ks vs =>
    obtain ⟨us, h, l, da⟩ := hc
    obtain ⟨kk, k1, rfl⟩ := Option.map_eq_some_iff.mp k
    obtain ⟨z1, z2⟩ := val_dx (k := kk) (ks := ks) da
    have ey := key_dx hy k1
    subst ey
    exact ⟨.inl ⟨_, .inl h⟩, _, DGet.k h, z2, z1⟩
  | dt ks vs =>
    obtain ⟨us, h, l, da⟩ := hc
    obtain ⟨kk, k1, rfl⟩ := Option.map_eq_some_iff.mp k
    obtain ⟨z1, z2⟩ := val_dx (k := kk) (ks := ks) da
    cases hy with
    | @tup b ys es hb db =>
      have ey := keys_dx db k1
      subst ey
      exact ⟨.inr ⟨_, .inl h⟩, _, DGet.t h (e _ _ hb), z2, z1⟩
    | _ => cases k1
  | _ => cases k
theorem cell_isD {F H : Hp} {a : Addr} {c : D} (hc : Cell cl F (H a) c) (h : (∃ ks vs, c = .dk ks vs) ∨ ∃ ks vs, c = .dt ks vs) : IsD H a := by
  rcases h with ⟨ks, vs, rfl⟩ | ⟨ks, vs, rfl⟩
  · obtain ⟨us, h, _⟩ := hc
    exact .inl ⟨_, .inl h⟩
  · obtain ⟨us, h, _⟩ := hc
    exact .inr ⟨_, .inl h⟩
def D.isDict : D → Bool
  | .dk _ _ => true
  | .dt _ _ => true
  | _ => false
def mGet2O (j : Nat) (mk mx : M) : M := fun s => (cellAt s j).bind fun c0 => if c0.isDict = true then (mk s).bind fun r => (mx r.2).bind fun z => (cellAt z.2 j).bind fun c => (dGetO c r.1).map fun o => (o.getD z.1, z.2) else none
instance i_get2O {j : Nat} {tk tx : TE} {mk mx : M} [B : EvX cl tk mk] [C : EvX cl tx mx] : EvX cl (tDGet2 (tVar j) tk tx) (mGet2O j mk mx) := ⟨fun {F H σ s ad d s'} k e Q q => by
  obtain ⟨c0, h0, e⟩ := bind_some e
  by_cases hd : c0.isDict = true
  · rw [if_pos hd] at e
    obtain ⟨⟨d2, s2⟩, e2, e⟩ := bind_some e
    obtain ⟨⟨d3, s3⟩, e3, e⟩ := bind_some e
    obtain ⟨c, h1, e⟩ := bind_some e
    obtain ⟨o, e4, e⟩ := Option.map_eq_some_iff.mp e
    cases e
    obtain ⟨l0, hl0, hc0⟩ := cellAt_some h0
    obtain ⟨l1, hl1, hc1⟩ := cellAt_some h1
    obtain ⟨k1, _, k3⟩ := k.ow j l0 _ hl0 hc0
    have hD : IsD H (ad j) := cell_isD k3 (by
      cases c0 with
      | dk ks vs => exact .inl ⟨_, _, rfl⟩
      | dt ks vs => exact .inr ⟨_, _, rfl⟩
      | _ => cases hd)
    refine ⟨_, k1, ad j, rfl, hD, B.run k e2 _ fun u F2 H2 x2 v2 => C.run x2.ok e3 _ fun z F3 H3 x3 v3 => ?_⟩
    have x := x2.trans x3
    obtain ⟨_, _, g3⟩ := x.ok.ow j l1 _ hl1 hc1
    obtain ⟨_, r, g, z1, z2⟩ := cell_get x.ok.ex g3 (v2.mono x3.step.ex) e4
    refine ⟨r, g, ?_⟩
    cases o with
    | none =>
      rw [z1 rfl]
      exact q _ _ _ x v3
    | some dd =>
      obtain ⟨vv, rfl, hv⟩ := z2 dd rfl
      exact q _ _ _ x hv
  · rw [if_neg hd] at e
    cases e⟩
/-! ### zip, enumerate -/
def zipD : D → D → Option (List D)
  | .lst a, .lst b => some ((a.zip b).map fun p => .tup [p.1, p.2])
  | .tup a, .tup b => some ((a.zip b).map fun p => .tup [p.1, p.2])
  | _, _ => none
def itZ (a : MA) : MA := fun s => (a s).bind fun p => match p.1 with
  | [x, y] => (zipD x y).map fun ds => (ds, p.2)
  | _ => none
theorem walk_zipT {K : PySem.W.Frag} {a b : Addr} {xs ys : List V} {n : Nat} (hn : n = min xs.length ys.length) : Walk (ItzT K a b) n (fun H => SqT K H a xs ∧ SqT K H b ys) (YPair (fun i => xs[i]?) (fun i => ys[i]?)) := by
  subst hn
  refine ⟨fun i _ hi q => ?_, fun _ q => ⟨xs, ys, q.1, q.2, by omega⟩, fun i H v H' _ q y => ?_⟩
  · have h1 : i < xs.length := by omega
    have h2 : i < ys.length := by omega
    exact ⟨xs, ys, xs[i], ys[i], q.1, q.2, by simp [h1], by simp [h2]⟩
  · obtain ⟨T, x, z, h1, h2, h3, h4, h5⟩ := y
    exact ⟨T, x, z, h1, h2, h3, h4 xs q.1, h5 ys q.2⟩
theorem zip_dx {F1 F2 H2 H3 : Hp} {xs ys : List V} {as bs : List D} {i : Nat} {d : D} {v : V} (da : DxAll cl F1 xs as) (db : DxAll cl F1 ys bs) (hd : ((as.zip bs).map fun p => D.tup [p.1, p.2])[i]? = some d) (y1 : Ex F1 F2) (y2 : Ex F2 H2) (y : YPair (fun i => xs[i]?) (fun i => ys[i]?) i H2 v H3) : ∃ F3, Step (fun _ => False) F2 H2 F3 H3 ∧ Dx cl F3 v d := by
  obtain ⟨T, x, z, rfl, hT, rfl, hx, hz⟩ := y
  obtain ⟨dx, e1, h1⟩ := da.getV hx
  obtain ⟨dz, e2, h2⟩ := db.getV hz
  have hz2 : (as.zip bs)[i]? = some (dx, dz) := by
    rw [List.getElem?_zip_eq_some]
    exact ⟨e1, e2⟩
  rw [List.getElem?_map, hz2] at hd
  cases hd
  have st : Step (fun _ => False) F2 H2 (upd F2 T (.tup [x, z])) (upd H2 T (.tup [x, z])) := .new y2 hT
  exact ⟨_, st, .tup upd_same (.cons (h1.mono (y1.trans st.ex)) (.cons (h2.mono (y1.trans st.ex)) .nil))⟩
instance it_zip {K : PySem.W.Frag} {ta : TA} {ma : MA} [A : EvA cl ta ma] : ItX cl (iZipA K ta) (itZ ma) := ⟨fun {F H σ s ad ds s'} k e R q => by
  obtain ⟨⟨l, s1⟩, e1, e⟩ := bind_some e
  dsimp only at e
  split at e
  · rename_i dx dy
    obtain ⟨ds1, e2, e⟩ := Option.map_eq_some_iff.mp e
    cases e
    refine A.run k e1 _ fun vs F1 H1 x1 h1 => ?_
    cases h1 with
    | cons h1 h2 =>
      cases h2 with
      | cons h3 h4 =>
        cases h4
        cases h1 with
        | @lst a xs as ha da =>
          cases h3 with
          | @lst b ys bs hb db =>
            cases e2
            have w := walk_zip (K := K) (a := a) (b := b) (xs := xs) (ys := ys) (n := ((as.zip bs).map fun p => D.tup [p.1, p.2]).length) (by rw [List.length_map, List.length_zip, da.length, db.length])
            exact ⟨a, b, xs, ys, rfl, .inl ⟨sq_of (x1.ok.ex _ _ ha), sq_of (x1.ok.ex _ _ hb), q F1 H1 _ _ _ x1 w (fun F2 H2 y1 => ⟨sq_of (y1.2.1 _ _ (y1.1 _ _ ha)), sq_of (y1.2.1 _ _ (y1.1 _ _ hb))⟩) fun i d F2 H2 x H3 hd y1 y => zip_dx da db hd y1.1 y1.2.1 y⟩⟩
          | _ => cases e2
        | @tup a xs as ha da =>
          cases h3 with
          | @tup b ys bs hb db =>
            cases e2
            have w := walk_zipT (K := K) (a := a) (b := b) (xs := xs) (ys := ys) (n := ((as.zip bs).map fun p => D.tup [p.1, p.2]).length) (by rw [List.length_map, List.length_zip, da.length, db.length])
            exact ⟨a, b, xs, ys, rfl, .inr ⟨st_of (x1.ok.ex _ _ ha), st_of (x1.ok.ex _ _ hb), q F1 H1 _ _ _ x1 w (fun F2 H2 y1 => ⟨st_of (y1.2.1 _ _ (y1.1 _ _ ha)), st_of (y1.2.1 _ _ (y1.1 _ _ hb))⟩) fun i d F2 H2 x H3 hd y1 y => zip_dx da db hd y1.1 y1.2.1 y⟩⟩
          | _ => cases e2
        | _ => cases e2
  · cases e⟩
end Fr

set_option Elab.async false
set_option linter.all false
set_option maxRecDepth 100000
set_option maxHeartbeats 2000000
namespace Fr
open PySem PySem.Spec PyProof.Rows L2 Evl RZ
variable {cl : PySem.Str → Addr}
/-! ### whatever is walked -/
def iAll (K : PySem.W.Frag) (tl : TE) : TI := fun σ H R => iAny K tl σ H R ∨ iKeys tl σ H R
namespace W
theorem itAll {X : Cx} (K : PySem.W.Frag) {tg l : Expr} {tl : TE} (hl : PE X l tl) (h : X.K = K := by rfl) : PI X tg l (iAll K tl) := ⟨fun pins s σ H R I q => by
  rcases q with q | q
  · exact (W.it K hl h).run pins s σ H R I q
  · exact (pi_keys hl).run pins s σ H R I q⟩
theorem zip {X : Cx} (K : PySem.W.Frag) {e e2 : Expr} {ta : TA} {p pos tpos : Pos} {elts : List Expr} {kk : Nat} (hm : X.mg "zip" = none) (ha : PA X [e, e2] ta) (h : X.K = K := by rfl) (hg : Gl X "zip" := by rfl)
    (hs : starEach [e, e2] X.env = (false, eval e X.env) :: starEach [e2] X.env := by rfl) (hpl : (backTo pos (starEach [e2] X.env)).any (·.1) = false := by rfl) : PI X (.Tuple elts kk tpos) (.Call (.Name "zip" p) [e, e2] [] pos) (iZipA K ta) := h ▸ pi_zipA hg hm ha hs hpl
theorem tup {X : Cx} (K : PySem.W.Frag) (n : Nat) {es : List Expr} {k : Nat} {t : TGs} {pos : Pos} (h : PGs X es t) (hk : X.K = K := by rfl) (hc : X.calm = true := by rfl) (hn : (assignEach es X.env).length = n := by rfl) (hst : (assignEach es X.env).findIdx? (·.1) = none := by rfl) : PG X (.Tuple es k pos) (gTup K n t) := hk ▸ pg_tup hc h hn hst
end W
def D.itemsL (d : D) : Option (List D) := match d.keysD with
  | some ds => some ds
  | none => d.itemsA
def itL (a : M) : MA := fun s => (a s).bind fun p => p.1.itemsL.map fun ds => (ds, p.2)
instance it_all {K : PySem.W.Frag} {tl : TE} {m : M} [A : EvX cl tl m] : ItX cl (iAll K tl) (itL m) := ⟨fun {F H σ s ad ds s'} k e R q => by
  obtain ⟨⟨d, s1⟩, e1, e⟩ := bind_some e
  obtain ⟨ds1, e2, e⟩ := Option.map_eq_some_iff.mp e
  cases e
  unfold D.itemsL at e2
  split at e2
  · rename_i ds2 h2
    cases e2
    refine .inr ((it_keys (cl := cl) (td := tl) (m := m)).run k (s' := s1) ?_ R q)
    unfold itK
    rw [e1]
    show (d.keysD.map fun ds => (ds, s1)) = _
    rw [h2]
    rfl
  · refine .inl ((it_any (cl := cl) (K := K) (tl := tl) (m := m)).run k (s' := s1) ?_ R q)
    unfold itA
    rw [e1]
    show (d.itemsA.map fun ds => (ds, s1)) = _
    rw [e2]
    rfl⟩
end Fr

set_option Elab.async false
set_option linter.all false
set_option maxRecDepth 100000
set_option maxHeartbeats 2000000
namespace Fr
open PySem PySem.Spec PyProof.Rows L2 Evl RZ
variable {cl : PySem.Str → Addr}
/-! ### two fors in a comprehension -/
/-- within a comprehension whose list grows at L: from (F0, H0, sw) on -/
structure LcI (cl : PySem.Str → Addr) (F0 H0 : Hp) (sw : S) (ad : Nat → Addr) (L : Addr) (F H : Hp) (σ : L2.St) (s : S) (acc : List V) (da : List D) : Prop where
  ok : Ok cl F H σ s ad
  st : Step (fun a => own sw ad a ∨ a = L) F0 H0 F H
  sub : ∀ a, own s ad a → own sw ad a ∨ H0 a = none
  pms : ∀ (i : Nat) (d : D), sw[i]? = some (Sl.pm d) → ∃ d', s[i]? = some (Sl.pm d')
  no : ¬ own sw ad L ∧ H0 L ≠ none
  fD : F L = none
  hD : H L = some (.lst acc)
  dA : DxAll cl F acc da
section
variable {F0 H0 F H F2 H2 : Hp} {sw s s2 : S} {ad : Nat → Addr} {L : Addr} {σ σ2 : L2.St} {acc : List V} {da : List D}
theorem LcI.notL (x : LcI cl F0 H0 sw ad L F H σ s acc da) : ¬ own s ad L := fun o => by
  rcases x.sub _ o with z | z
  · exact x.no.1 z
  · exact x.no.2 z
theorem LcI.po (x : LcI cl F0 H0 sw ad L F H σ s acc da) (y : Po cl F H s ad F2 H2 σ2 s2 ad) : LcI cl F0 H0 sw ad L F2 H2 σ2 s2 acc da := by
  obtain ⟨w1, w2⟩ := y.step.2.2 L (by rw [x.hD]; exact fun z => nomatch z)
  obtain ⟨w3, w4⟩ := w2 x.fD x.notL
  refine ⟨y.ok, step_po x.st x.sub y, sub_po x.st x.sub y, fun i d h => ?_, x.no, w3 (by rw [x.hD]; exact fun _ z => nomatch z), by rw [w4]; exact x.hD, x.dA.mono y.step.ex⟩
  obtain ⟨d1, h1⟩ := x.pms i d h
  exact (y.pms i d1 h1).2
theorem LcI.wipe (x : LcI cl F0 H0 sw ad L F H σ s acc da) {vs : List Nat} (hv : ∀ (i : Nat) (d : D), sw[i]? = some (Sl.pm d) → i ∉ vs) : LcI cl F0 H0 sw ad L F H (wipe σ vs) (wipeS s vs) acc da := by
  refine ⟨x.ok.wipe, x.st, fun a o => x.sub a (own_wipe o), fun i d h => ?_, x.no, x.fD, x.hD, x.dA⟩
  obtain ⟨d1, h1⟩ := x.pms i d h
  exact ⟨d1, by rw [wipeS_out (hv i d h)]; exact h1⟩
theorem LcI.app (x : LcI cl F0 H0 sw ad L F H σ s acc da) {v : V} {d : D} (h : Dx cl F v d) : LcI cl F0 H0 sw ad L F (upd H L (.lst (acc ++ [v]))) σ s (acc ++ [v]) (da ++ [d]) := by
  have st : Step (fun a => a = L) F H F (upd H L (.lst (acc ++ [v]))) := .write x.ok.ex rfl x.fD
  exact ⟨x.ok.step st (fun a o z => x.notL (z ▸ o)) (fun a od u hz z => by
    rw [z, x.hD] at hz
    cases hz), x.st.trans (.write x.ok.ex (.inr rfl) x.fD), x.sub, x.pms, x.no, x.fD, upd_same, x.dA.app (.cons h .nil)⟩
end
theorem lc_end {F H F1 H1 F' H' : Hp} {σ : L2.St} {s s1 sE : S} {ad : Nat → Addr} {Dl : Addr} {vs : List Nat} {acc : List V} {da : List D} (k : Ok cl F H σ s ad) (x1 : Po cl F H s ad F1 H1 σ s1 ad) (hD : H1 Dl = none) (hno : noOwn s1 vs = true) (nD : ∀ a, own s1 ad a → a ≠ Dl)
    (x : LcI cl F1 (upd H1 Dl (.lst [])) (wipeS s1 vs) ad Dl F' H' (wipe σ vs) sE acc da) : H Dl = none ∧ (∀ a, own (backS s1 sE vs) ad a → a ≠ Dl) ∧ Po cl F H s ad F' H' σ (backS s1 sE vs) ad := by
  have p1 := x.ok
  have p2 := x.st
  have p3 := x.sub
  have p4 := x.pms
  have hn : H Dl = none := back_none x1 hD
  have slot : ∀ {j : Nat} {l : Sl} {d : D}, (backS s1 sE vs)[j]? = some l → l.cell = some d → sE[j]? = some l ∧ j ∉ vs := fun {j l d} g c => by
    rcases backS_some g with ⟨z1, z2⟩ | ⟨z1, z2⟩
    · have b := List.all_eq_true.mp hno j z1
      rw [z2] at b
      cases l <;> first | (cases c; done) | (cases b; done)
    · refine ⟨z1, fun z => ?_⟩
      have n1 := z2 z
      have l1 : s1.length = sE.length := by
        have q1 := p1.len
        rw [wipe_len, x1.ok.len] at q1
        exact q1
      have z3 := (List.getElem?_eq_some_iff.mp z1).1
      have z4 := List.getElem?_eq_none_iff.mp n1
      omega
  have stA : Step (own s ad) F H F' H' := by
    have a1 : Step (own s ad) F H F1 (upd H1 Dl (.lst [])) := x1.step.trans (.newM x1.ok.ex hD)
    refine step_trans2 a1 p2 fun a h no o => ?_
    rcases o with o | o
    · rcases x1.sub a (own_wipe o) with z | z
      · exact no z
      · exact h z
    · exact h (o ▸ hn)
  refine ⟨hn, fun a o z => ?_, ⟨stA, ?_, fun a o => ?_, fun j d0 g => ?_⟩⟩
  · obtain ⟨j, l, d, g, c, rfl⟩ := o
    obtain ⟨g2, _⟩ := slot g c
    rcases p3 _ ⟨j, l, d, g2, c, rfl⟩ with y | y
    · exact nD _ (own_wipe y) z
    · rw [z, upd_same] at y
      cases y
  · refine ⟨p1.ex, ?_, fun j d g => ?_, fun j l d g c => ?_, fun j j2 l m d e2 g c g2 c2 ne => ?_, fun j d g => ?_⟩
    · rw [backS_len]
      have q1 := p1.len
      rw [wipe_len] at q1
      exact q1
    · rcases backS_some g with ⟨z1, z2⟩ | ⟨z1, z2⟩
      · obtain ⟨v, h1, h2⟩ := x1.ok.fz j d z2
        exact ⟨v, h1, h2.mono p2.ex⟩
      · obtain ⟨v, h1, h2⟩ := p1.fz j d z1
        by_cases hv : j ∈ vs
        · have q1 := (List.getElem?_eq_some_iff.mp h1).1
          rw [wipe_len] at q1
          rw [wipe_in hv q1] at h1
          cases h1
        · rw [wipe_out hv] at h1
          exact ⟨v, h1, h2⟩
    · obtain ⟨g2, nv⟩ := slot g c
      obtain ⟨h1, h2, h3⟩ := p1.ow j l d g2 c
      rw [wipe_out nv] at h1
      exact ⟨h1, h2, h3⟩
    · obtain ⟨g3, _⟩ := slot g c
      obtain ⟨g4, _⟩ := slot g2 c2
      exact p1.ne j j2 l m d e2 g3 c g4 c2 ne
    · rcases backS_some g with ⟨z1, z2⟩ | ⟨z1, z2⟩
      · have b := List.all_eq_true.mp hno j z1
        rw [z2] at b
        cases b
      · obtain ⟨h1, h2, h3⟩ := p1.rb j d z1
        by_cases hv : j ∈ vs
        · have q1 := (List.getElem?_eq_some_iff.mp h1).1
          rw [wipe_len] at q1
          rw [wipe_in hv q1] at h1
          cases h1
        · rw [wipe_out hv] at h1
          exact ⟨h1, h2, h3⟩
  · obtain ⟨j, l, d, g, c, rfl⟩ := o
    obtain ⟨g2, _⟩ := slot g c
    rcases p3 _ ⟨j, l, d, g2, c, rfl⟩ with y | y
    · exact x1.sub _ (own_wipe y)
    · refine .inr ?_
      cases z : H (ad j) with
      | none => rfl
      | some o =>
        have w1 := (x1.step.2.2 (ad j) (by rw [z]; exact fun z => nomatch z)).1
        have ne : ad j ≠ Dl := fun zz => by
          rw [zz, upd_same] at y
          cases y
        rw [upd_ne ne] at y
        exact absurd y w1
  · obtain ⟨y1, d1, y2⟩ := x1.pms j d0 g
    refine ⟨rfl, ?_⟩
    have nv : j ∉ vs := fun hv => by
      have b := List.all_eq_true.mp hno j hv
      rw [y2] at b
      cases b
    obtain ⟨d2, y3⟩ := p4 j d1 (by rw [wipeS_out nv]; exact y2)
    refine ⟨d2, ?_⟩
    have gen : ∀ vs : List Nat, j ∉ vs → (backS s1 sE vs)[j]? = sE[j]? := by
      intro vs
      induction vs with
      | nil => exact fun _ => rfl
      | cons v vs ih =>
        intro h
        have ne : v ≠ j := fun z => h (z ▸ List.mem_cons_self ..)
        unfold backS
        split
        · rw [List.getElem?_set_ne ne]
          exact ih fun z => h (List.mem_cons_of_mem _ z)
        · exact ih fun z => h (List.mem_cons_of_mem _ z)
    rw [gen vs nv]
    exact y3
theorem wipe_wipe {σ : L2.St} {vs vs1 : List Nat} (h : ∀ j ∈ vs1, j ∈ vs) : wipe (wipe σ vs1) vs = wipe σ vs := by
  apply List.ext_getElem?
  intro j
  by_cases e : j ∈ vs
  · by_cases hl : j < σ.length
    · rw [wipe_in e hl, wipe_in e (by rw [wipe_len]; exact hl)]
    · rw [List.getElem?_eq_none (by rw [wipe_len, wipe_len]; omega), List.getElem?_eq_none (by rw [wipe_len]; omega)]
  · rw [wipe_out e, wipe_out e, wipe_out fun z => e (h j z)]
def lc2M (tg : D → S → Option S) (t : MT) (it1 : MA) (tg1 : D → S → Option S) (t1 : MT) (e : M) (vs vs1 : List Nat) : List D → S → List D → Option (List D × S)
  | [], s, acc => some (acc, s)
  | d :: ds, s, acc => (tg d s).bind fun s1 => (t s1).bind fun p => if p.1 = true then (it1 p.2).bind fun q => (lcM tg1 t1 e vs1 q.1 (wipeS q.2 vs1) acc).bind fun r => lc2M tg t it1 tg1 t1 e vs vs1 ds (wipeS r.2 vs) r.1 else lc2M tg t it1 tg1 t1 e vs vs1 ds (wipeS p.2 vs) acc
def mLc2 (it : MA) (tg : D → S → Option S) (js : List Nat) (t : MT) (it1 : MA) (tg1 : D → S → Option S) (js1 : List Nat) (t1 : MT) (e : M) (vs vs1 : List Nat) : M := fun s => (it s).bind fun p => if (noOwn p.2 vs && ((js.all fun j => vs.contains j) && ((js1.all fun j => vs1.contains j) && vs1.all fun j => vs.contains j))) = true then (lc2M tg t it1 tg1 t1 e vs vs1 p.1 (wipeS p.2 vs) []).map fun r => (.lst r.1, backS p.2 r.2 vs) else none
instance n_lc2 {wi wi1 : TI} {g g1 : TG} {tt tt1 : TT} {te : TE} {vs vs1 js js1 : List Nat} {it it1 : MA} {tg tg1 : D → S → Option S} {t t1 : MT} {e : M} [I : ItX cl wi it] [T : TgX cl g tg js] [C : EvT cl tt t] [I1 : ItX cl wi1 it1] [T1 : TgX cl g1 tg1 js1] [C1 : EvT cl tt1 t1] [E : EvX cl te e] :
    EvN cl (tLc2 wi g tt wi1 g1 tt1 te vs vs1) (mLc2 it tg js t it1 tg1 js1 t1 e vs vs1) := ⟨fun {F H σ s ad d s'} k ee Q q => by
  obtain ⟨⟨ds, s1⟩, e1, ee⟩ := bind_some ee
  dsimp only at ee
  by_cases hcond : (noOwn s1 vs && ((js.all fun j => vs.contains j) && ((js1.all fun j => vs1.contains j) && vs1.all fun j => vs.contains j))) = true
  · rw [if_pos hcond] at ee
    obtain ⟨⟨r, sE⟩, e2, ee⟩ := Option.map_eq_some_iff.mp ee
    cases ee
    obtain ⟨hno, hcond⟩ := Bool.and_eq_true_iff.mp hcond
    obtain ⟨hjs, hcond⟩ := Bool.and_eq_true_iff.mp hcond
    obtain ⟨hjs1, hvs1⟩ := Bool.and_eq_true_iff.mp hcond
    have hsub : ∀ j ∈ js, j ∈ vs := fun j hj => by simpa using List.all_eq_true.mp hjs j hj
    have hsub1 : ∀ j ∈ js1, j ∈ vs1 := fun j hj => by simpa using List.all_eq_true.mp hjs1 j hj
    have hsubv : ∀ j ∈ vs1, j ∈ vs := fun j hj => by simpa using List.all_eq_true.mp hvs1 j hj
    refine I.run k e1 _ fun F1 H1 J G Y x1 w hG hY Dl hD => ?_
    have nD : ∀ a, own s1 ad a → a ≠ Dl := fun a o z => (own_some x1.ok o).1 (z ▸ hD)
    have stD : Step (fun _ => False) F1 H1 F1 (upd H1 Dl (.lst [])) := .newM x1.ok.ex hD
    have okD : Ok cl F1 (upd H1 Dl (.lst [])) σ s1 ad := (Po.step0 x1.ok stD).ok
    have hpm : ∀ (i : Nat) (d : D), (wipeS s1 vs)[i]? = some (Sl.pm d) → i ∉ vs := fun i d h z => by
      rcases wipeS_some h with ⟨n, _⟩ | ⟨_, y⟩
      · exact n z
      · cases y
    have hpm1 : ∀ (i : Nat) (d : D), (wipeS s1 vs)[i]? = some (Sl.pm d) → i ∉ vs1 := fun i d h z => hpm i d h (hsubv i z)
    have x0 : LcI cl F1 (upd H1 Dl (.lst [])) (wipeS s1 vs) ad Dl F1 (upd H1 Dl (.lst [])) (wipe σ vs) (wipeS s1 vs) [] [] :=
      ⟨okD.wipe, .refl okD.ex, fun a o => .inl o, fun i d h => ⟨d, h⟩, ⟨fun o => nD _ (own_wipe o) rfl, by rw [upd_same]; exact fun z => nomatch z⟩, ex_none x1.ok.ex hD, upd_same, .nil⟩
    have lc2_it : ∀ {Pv : Nat → Hp → Prop}, Pv 0 (upd H1 Dl (.lst [])) → (∀ i H, i ≤ ds.length → Pv i H → G H) →
        (∀ i x H H', i < ds.length → Pv i H → Y i H x H' → g x (wipe σ vs) H' fun σ2 H2 => wipe σ2 vs = wipe σ vs ∧ tt σ2 H2 fun b H3 =>
          if b = true then wi1 σ2 H3 fun J1 H4 => ∃ W1 : Nat → Nat → Hp → Prop, (∃ m, W1 0 m H4) ∧ ∀ j k H, W1 j k H →
            (J1.stop j H ∧ Pv (i + 1) H) ∨ (J1.go j H ∧ ∃ Nx1 : Hp → Prop, (∀ H', Nx1 H' → ∃ k', k' < k ∧ W1 (j + 1) k' H') ∧ ∀ x H', J1.yld j H x H' → g1 x (wipe σ2 vs1) H' fun σ3 H5 => wipe σ3 vs1 = wipe σ2 vs1 ∧ tt1 σ3 H5 fun b H6 =>
              if b = true then te σ3 H6 fun y H7 => ∃ acc, H7 Dl = some (.lst acc) ∧ acc.length < sizeLine ∧ Nx1 (upd H7 Dl (.lst (acc ++ [y]))) else Nx1 H6)
          else Pv (i + 1) H3) → (∀ H, Pv ds.length H → Q (.ref Dl) H) →
        ∃ W : Nat → Nat → Hp → Prop, (∃ m, W 0 m (upd H1 Dl (.lst []))) ∧ ∀ i m H, W i m H →
          (J.stop i H ∧ Q (.ref Dl) H) ∨ (J.go i H ∧ ∃ Nx : Hp → Prop, (∀ H', Nx H' → ∃ m', m' < m ∧ W (i + 1) m' H') ∧ ∀ x H', J.yld i H x H' → g x (wipe σ vs) H' fun σ2 H2 => wipe σ2 vs = wipe σ vs ∧ tt σ2 H2 fun b H3 =>
            if b = true then wi1 σ2 H3 fun J1 H4 => ∃ W1 : Nat → Nat → Hp → Prop, (∃ m, W1 0 m H4) ∧ ∀ j k H, W1 j k H →
              (J1.stop j H ∧ Nx H) ∨ (J1.go j H ∧ ∃ Nx1 : Hp → Prop, (∀ H', Nx1 H' → ∃ k', k' < k ∧ W1 (j + 1) k' H') ∧ ∀ x H', J1.yld j H x H' → g1 x (wipe σ2 vs1) H' fun σ3 H5 => wipe σ3 vs1 = wipe σ2 vs1 ∧ tt1 σ3 H5 fun b H6 =>
                if b = true then te σ3 H6 fun y H7 => ∃ acc, H7 Dl = some (.lst acc) ∧ acc.length < sizeLine ∧ Nx1 (upd H7 Dl (.lst (acc ++ [y]))) else Nx1 H6)
            else Nx H3) := by
      intro Pv h0 hG2 hs hd
      refine ⟨fun i m H => m = ds.length - i ∧ i ≤ ds.length ∧ Pv i H, ⟨ds.length, by simp, Nat.zero_le _, h0⟩, ?_⟩
      rintro i m H ⟨rfl, hi, p⟩
      have q := hG2 i H hi p
      by_cases hlt : i < ds.length
      · exact .inr ⟨w.goes i H hlt q, Pv (i + 1), fun H' p' => ⟨ds.length - (i + 1), by omega, rfl, hlt, p'⟩, fun x H' y => hs i x H H' hlt p (w.yields i H x H' hlt q y)⟩
      · have e : i = ds.length := by omega
        subst e
        exact .inl ⟨w.stops H q, hd H p⟩
    refine lc2_it (Pv := fun i H' => ∃ F' s2 acc da, LcI cl F1 (upd H1 Dl (.lst [])) (wipeS s1 vs) ad Dl F' H' (wipe σ vs) s2 acc da ∧ lc2M tg t it1 tg1 t1 e vs vs1 (ds.drop i) s2 da = some (r, sE)) ⟨F1, _, [], [], x0, e2⟩ (fun i H' _ p => ?_) (fun i x H' H'' hi p y => ?_) fun H' p => ?_
    · obtain ⟨F', s2, acc, da, p1, _⟩ := p
      exact hG F' H' (lc_kp x1.ok hD p1.st)
    · obtain ⟨F', s2, acc, da, p1, p8⟩ := p
      obtain ⟨d, hd⟩ : ∃ d, ds[i]? = some d := ⟨ds[i], by simp [hi]⟩
      rw [drop_cons hd] at p8
      obtain ⟨s3, f1, p8⟩ := bind_some p8
      obtain ⟨⟨c, s4⟩, f2, p8⟩ := bind_some p8
      obtain ⟨F2, st, hx⟩ := hY i d F' H' x H'' hd (lc_kp x1.ok hD p1.st) y
      have p2 := p1.po (Po.step0 p1.ok st)
      refine T.run p2.ok hx f1 _ fun σ3 ap x3 => ⟨wipe_apart ap hsub, C.run x3.ok f2 _ fun F4 H4 x4 => ?_⟩
      have wp : wipe σ3 vs = wipe σ vs := wipe_apart ap hsub
      have p3 := (p2.po x3).po x4
      cases c with
      | false =>
        simp only [Bool.false_eq_true, if_false] at p8 ⊢
        have p4 := p3.wipe hpm
        rw [wp] at p4
        exact ⟨F4, _, acc, da, p4, p8⟩
      | true =>
        simp only [if_true] at p8 ⊢
        obtain ⟨⟨ds1, s5⟩, f3, p8⟩ := bind_some p8
        obtain ⟨⟨da2, s6⟩, f4, p8⟩ := bind_some p8
        refine I1.run p3.ok f3 _ fun F5 H5 J1 G1 Y1 x5 w1 hG1 hY1 => ?_
        have p5 := (p3.po x5).wipe hpm1
        refine ⟨fun j m H => m = ds1.length - j ∧ j ≤ ds1.length ∧ ∃ F' s7 acc7 da7, LcI cl F1 (upd H1 Dl (.lst [])) (wipeS s1 vs) ad Dl F' H (wipe σ3 vs1) s7 acc7 da7 ∧ Kp F5 H5 F' H ∧ lcM tg1 t1 e vs1 (ds1.drop j) s7 da7 = some (da2, s6), ⟨ds1.length, by simp, Nat.zero_le _, F5, _, acc, da, p5, Kp.refl p5.ok.ex, f4⟩, ?_⟩
        rintro j m H7 ⟨rfl, hj, F7, s7, acc7, da7, p7, ex7, f7⟩
        have hg7 := hG1 F7 H7 ex7
        by_cases hlt : j < ds1.length
        · refine .inr ⟨w1.goes j H7 hlt hg7, fun H' => ∃ F' s8 acc8 da8, LcI cl F1 (upd H1 Dl (.lst [])) (wipeS s1 vs) ad Dl F' H' (wipe σ3 vs1) s8 acc8 da8 ∧ Kp F5 H5 F' H' ∧ lcM tg1 t1 e vs1 (ds1.drop (j + 1)) s8 da8 = some (da2, s6), fun H' p' => ⟨ds1.length - (j + 1), by omega, rfl, hlt, p'⟩, fun x' H' y' => ?_⟩
          have y2 := w1.yields j H7 x' H' hlt hg7 y'
          obtain ⟨d1, hd1⟩ : ∃ d1, ds1[j]? = some d1 := ⟨ds1[j], by simp [hlt]⟩
          rw [drop_cons hd1] at f7
          obtain ⟨s8, f8, f7⟩ := bind_some f7
          obtain ⟨⟨c1, s9⟩, f9, f7⟩ := bind_some f7
          obtain ⟨F8, st8, hx8⟩ := hY1 j d1 F7 H7 x' H' hd1 ex7 y2
          have p8' := p7.po (Po.step0 p7.ok st8)
          refine T1.run p8'.ok hx8 f8 _ fun σ9 ap9 x9 => ⟨wipe_apart ap9 hsub1, C1.run x9.ok f9 _ fun F10 H10 x10 => ?_⟩
          have wp9 : wipe σ9 vs1 = wipe σ3 vs1 := wipe_apart ap9 hsub1
          have p10 := (p8'.po x9).po x10
          have ex10 : Kp F5 H5 F10 H10 := ((ex7.trans (Kp.of st8 fun _ _ _ _ o => o)).trans (x9.kp p8'.ok)).trans (x10.kp x9.ok)
          cases c1 with
          | false =>
            simp only [Bool.false_eq_true, if_false] at f7 ⊢
            have p11 := p10.wipe hpm1
            rw [wp9] at p11
            exact ⟨F10, _, acc7, da7, p11, ex10, f7⟩
          | true =>
            simp only [if_true] at f7 ⊢
            obtain ⟨⟨de, s11⟩, f11, f7⟩ := bind_some f7
            dsimp only at f7
            by_cases hz : da7.length < 100000
            · rw [if_pos hz] at f7
              refine E.run x10.ok f11 _ fun yv F12 H12 x12 h12 => ?_
              have p12 := p10.po x12
              have p13 := (p12.app h12).wipe hpm1
              rw [wp9] at p13
              exact ⟨acc7, p12.hD, sz_lt (by rw [p7.dA.length]; exact hz), F12, _, _, _, p13, (ex10.trans (x12.kp x10.ok)).trans (Kp.of (O := fun a => a = Dl) (.write x12.ok.ex rfl p12.fD) fun a od u hz z => by
                rw [z, p12.hD] at hz
                cases hz), f7⟩
            · rw [if_neg hz] at f7
              cases f7
        · have ej : j = ds1.length := by omega
          subst ej
          rw [List.drop_length] at f7
          cases f7
          have p14 := p7.wipe hpm
          rw [wipe_wipe hsubv, wp] at p14
          exact .inl ⟨w1.stops H7 hg7, F7, _, acc7, _, p14, p8⟩
    · obtain ⟨F', s2, acc, da, p1, p8⟩ := p
      rw [List.drop_length] at p8
      cases p8
      obtain ⟨z1, z2, z3⟩ := lc_end k x1 hD hno nD p1
      exact q Dl F' H' z1 p1.fD z2 z3 ⟨acc, p1.hD, p1.dA⟩
  · rw [if_neg hcond] at ee
    cases ee⟩
instance i_lc2 {wi wi1 : TI} {g g1 : TG} {tt tt1 : TT} {te : TE} {vs vs1 js js1 : List Nat} {it it1 : MA} {tg tg1 : D → S → Option S} {t t1 : MT} {e : M} [I : ItX cl wi it] [T : TgX cl g tg js] [C : EvT cl tt t] [I1 : ItX cl wi1 it1] [T1 : TgX cl g1 tg1 js1] [C1 : EvT cl tt1 t1] [E : EvX cl te e] :
    EvX cl (tLc2 wi g tt wi1 g1 tt1 te vs vs1) (mLc2 it tg js t it1 tg1 js1 t1 e vs vs1) := EvN.toX fun {s d s'} h => by
  obtain ⟨p, _, h⟩ := bind_some h
  split at h
  · obtain ⟨r, _, h⟩ := Option.map_eq_some_iff.mp h
    cases h
    exact ⟨_, rfl⟩
  · cases h
instance ca_min : CaX cl (fun xs H Q => ∃ i j : Int, xs = [V.int i, V.int j] ∧ Q (.int (if j < i then j else i)) H) dMin2 := ⟨fun {F H xs ds d} e h k Q q => by
  unfold dMin2 at k
  split at k
  · cases k
    cases h with
    | cons h1 h2 =>
      cases h2 with
      | cons h3 h4 =>
        cases h4
        cases h1
        cases h3
        exact ⟨_, _, rfl, q _ F H (.refl e) (.int _)⟩
  · cases k⟩
namespace W
theorem c_min {X : Cx} (hc : X.calm = true := by rfl) : CallR X (.builtin "min") (fun xs H Q => ∃ i j, xs = [.int i, .int j] ∧ Q (.int (if j < i then j else i)) H) := call_min2 hc
end W
end Fr

set_option Elab.async false
set_option linter.all false
set_option maxRecDepth 100000
set_option maxHeartbeats 2000000
namespace Fr
open PySem PySem.Spec PyProof.Rows L2 Evl RZ
variable {cl : PySem.Str → Addr}
/-! ### calls whose arguments all have names -/
section
variable {X : Cx} {CX : CXT} {k : Nat} {f : Addr} {fd : FuncData} {ps ks : List PySem.Str} {sp : Sp} {E : XK} {x : PySem.Str} {p pos : Pos} {kws : List Keyword} {tk : TA} {g : List Value → List Value → List Value} {gV : List V → List V → List V}
theorem W.callK (F : FnOk X.prog X.w X.K X.mg X.base CX k f fd ps sp) (hr : Room k X.A) (hm : X.mg x = some (.ref f)) (hk : PySem.W.keepIn X.K (.ref f) = true) (hb : KBn X.K fd ps 0 ks g gV) (hx : Passes CX X E)
    (hkw : PK X kws tk) (hg : Gl X x := by rfl) (hall : (backToKw pos (keywordEach kws X.env)).all (·.1.isSome) = true := by rfl) (hks : (backToKw pos (keywordEach kws X.env)).filterMap (·.1) = ks := by rfl)
    (hdb : (x == ("__debug__" : PySem.Str)) = false := by decide) (hpl : ((backTo pos (starEach [] X.env)).any (·.1) || (backToKw pos (keywordEach kws X.env)).any (·.1.isNone)) = false := by rfl) :
    PE X (.Call (.Name x p) [] kws pos) (tCallN 0 ks.length sp gV E tNil tk) := by
  refine ⟨fun pins s σ H Q I h => ?_⟩
  refine wpAny_Call_Name_kw (ld_glob I hg hm ?_ hdb)
  refine PySem.W.callWith_KW0 (h₀ := X.base) I.ok.mod.kin hk hall (thn (hkw.run pos pins s σ H _ I h) fun ws s1 hh => ?_) hpl
  obtain ⟨zs, H1, I1, rz, _, l2, q⟩ := hh
  refine ⟨I1.kIn, ?_⟩
  rw [hks]
  exact run_fnN (us := []) (vs := []) F hr hb hx I1 .nil rz rfl l2 q
end
def mCallN (np m : Nat) (perm : List D → List D) (Φ : List D → Option D) (a : MA) : M := fun s => (a s).bind fun p => if p.1.length = m ∧ (perm p.1).length = np then (Φ (perm p.1)).map fun d => (d, p.2) else none
/-- the order in which the values go to the parameters, alike for values and data -/
class Perm (gV : List V → List V → List V) (perm : List D → List D) : Prop where
  all : ∀ {cl : PySem.Str → Addr} {F : Hp} {zs : List V} {ds : List D}, DxAll cl F zs ds → DxAll cl F (gV [] zs) (perm ds)
instance i_callN {np m : Nat} {Φ : List D → Option D} {E : XK} {gV : List V → List V → List V} {perm : List D → List D} {tk : TA} {mk : MA} [A : EvA cl tk mk] [P : Perm gV perm] : EvX cl (tCallN 0 m (spD cl np Φ) gV E tNil tk) (mCallN np m perm Φ mk) := ⟨fun {F H σ s ad d s'} k e Q q => by
  obtain ⟨p, e1, e⟩ := bind_some e
  by_cases hl : p.1.length = m ∧ (perm p.1).length = np
  · rw [if_pos hl] at e
    obtain ⟨d1, e3, e⟩ := Option.map_eq_some_iff.mp e
    cases e
    refine A.run k e1 _ fun vs F1 H1 x1 h1 => ?_
    have h2 := P.all h1
    exact ⟨rfl, by rw [h1.length]; exact hl.1, by rw [h2.length]; exact hl.2, F1, perm p.1, _, x1.ok.ex, h2, e3, fun z F3 H3 x3 h3 => q z F3 H3 (x1.trans (.step0 x1.ok x3)) h3⟩
  · rw [if_neg hl] at e
    cases e⟩
/-- pick the i-th ones -/
def pick {α : Type} (is : List Nat) (l : List α) : List α := is.filterMap fun i => l[i]?
instance perm_pick {is : List Nat} : Perm (fun _ zs => pick is zs) (pick is) := ⟨fun {cl F zs ds} h => by
  unfold pick
  induction is with
  | nil => exact .nil
  | cons i is ih =>
    rw [List.filterMap_cons, List.filterMap_cons]
    cases e : ds[i]? with
    | none =>
      have e2 : zs[i]? = none := by
        rw [List.getElem?_eq_none_iff] at e ⊢
        rw [h.length]
        exact e
      rw [e2]
      exact ih
    | some d =>
      obtain ⟨v, e2, h2⟩ := h.get e
      rw [e2]
      exact .cons h2 ih⟩
theorem pick_vals {zs : List V} {ws : List Value} (h : Vals zs ws) : ∀ is : List Nat, Vals (pick is zs) (pick is ws)
  | [] => .nil
  | i :: is => by
    unfold pick
    rw [List.filterMap_cons, List.filterMap_cons]
    cases e : zs[i]? with
    | none =>
      have e2 : ws[i]? = none := h.none_of e
      rw [e2]
      exact pick_vals h is
    | some v =>
      obtain ⟨u, e2, r⟩ := h.get e
      rw [e2]
      exact .cons r (pick_vals h is)
theorem kbN {K : PySem.W.Frag} {x qual : PySem.Str} {params : Arguments} {body : List Stmt} {scope : Scope} {kws : List (PySem.Str × V)} {f : Addr} {fd : FuncData} {ps : List PySem.Str} (F : FunD K x qual params body scope [] kws f fd) (ks : List PySem.Str) (is : List Nat)
    (h : ∀ (kV doc pm : Value) (an : Option Addr) (cdv ct : Value) (ws : List Value), ws.length = ks.length → bindArgs (PySem.W.fnOf x qual params body scope .none kV doc pm an cdv ct) ⟨[], ks.zip ws⟩ = pure (ps.zip (pick is ws))) : KBn K fd ps 0 ks (fun _ ws => pick is ws) (fun _ zs => pick is zs) := by
  obtain ⟨oc, od, dV, kV, doc, pm, an, cdv, ct, osl, rfl, lk, hcd, hD, hK⟩ := F.ex
  rcases hD with ⟨_, rfl⟩ | ⟨e, _⟩
  · refine ⟨fun s us ws X l1 l2 => ?_, fun _ r2 => pick_vals r2 is⟩
    cases us with
    | nil => exact .of_eq (h kV doc pm an cdv ct ws l2)
    | cons u us => cases l1
  · exact absurd rfl e
end Fr
namespace Fr
open PySem PySem.Spec PyProof.Rows L2 Evl
/-- a def that calls itself: at depth 0 nothing is promised -/
theorem ok_zero {P : Program} {w : World} {K : PySem.W.Frag} {mg : PySem.Str → Option Value} {base : Heap} {CX : CXT} {k np : Nat} {f : Addr} {fd : FuncData} {ps : List PySem.Str} {cl : PySem.Str → Addr} : FnOk P w K mg base CX k f fd ps (spD cl np fun _ => none) :=
  { len := fun vs H Q E h => (by
      obtain ⟨_, F, ds, d, _, _, e, _⟩ := h
      cases e)
    run := fun A outer s H args us vs Q E _ _ _ _ h => (by
      obtain ⟨_, F, ds, d, _, _, e, _⟩ := h
      cases e) }
end Fr
namespace Fr
open PySem PySem.Spec PyProof.Rows L2 Evl
variable {cl : PySem.Str → Addr}
instance ox_isN : OpX cl (fun x y H Q => y = .non ∧ Q (.bl (decide (x = .non))) H) dIsN := ⟨fun {F H x y dx dy d} e hx hy k Q q => by
  cases hy <;> first | (cases k; done) | skip
  refine ⟨rfl, ?_⟩
  cases hx <;> (cases k; first | exact q (.bl true) F H (.refl e) (.bl true) | exact q (.bl false) F H (.refl e) (.bl false))⟩
instance ox_notN : OpX cl (fun x y H Q => y = .non ∧ Q (.bl (!decide (x = .non))) H) dNotN := ⟨fun {F H x y dx dy d} e hx hy k Q q => by
  cases hy <;> first | (cases k; done) | skip
  refine ⟨rfl, ?_⟩
  cases hx <;> (cases k; first | exact q (.bl true) F H (.refl e) (.bl true) | exact q (.bl false) F H (.refl e) (.bl false))⟩
end Fr

set_option Elab.async false
set_option linter.all false
set_option maxRecDepth 100000
set_option maxHeartbeats 2000000
namespace Fr
open PySem PySem.Spec PyProof.Rows L2 Evl
variable {cl : PySem.Str → Addr}
/-! ### powers of greater numbers -/
def CPowW (i j : Int) : Prop := 0 ≤ j ∧ ((Builtin.Int.intBits i : Nat) : Int) * j ≤ 100000
instance (i j : Int) : Decidable (CPowW i j) := by
  unfold CPowW
  infer_instance
theorem W.pow {X : Cx} : OpR X (binaryOp .Pow) (rI CPowW fun i j => .int (i ^ j.toNat)) := by
  intro pins s σ H x y v u Q I rx ry h
  obtain ⟨i, j, rfl, rfl, ⟨h1, h2⟩, q⟩ := h
  obtain ⟨t, rfl⟩ := rx
  obtain ⟨t', rfl⟩ := ry
  exact pow_int h1 (Int.le_trans h2 (by decide)) ⟨.int _, H, I.tok _, ⟨_, rfl⟩, q⟩
def dPowW : D → D → Option D := dInt fun i j => if CPowW i j then some (.int (i ^ j.toNat)) else none
instance ox_powW : OpX cl (rI CPowW fun i j => .int (i ^ j.toNat)) dPowW := ox_int fun i j d e => by
  by_cases h : CPowW i j
  · rw [if_pos h] at e
    cases e
    exact ⟨h, fun F => .int _⟩
  · rw [if_neg h] at e
    cases e
end Fr

set_option Elab.async false
set_option linter.all false
set_option maxRecDepth 100000
set_option maxHeartbeats 2000000
namespace Fr
open PySem PySem.Spec PyProof.Rows L2 Evl
variable {cl : PySem.Str → Addr}
/-! ### arguments: data, or what a variable holds (data, an own thing, a thing lent) -/
inductive Ag where
  | d (x : D) | v (j : Nat)
abbrev MG := S → Option (List Ag × S)
inductive AgAll (cl : PySem.Str → Addr) (F : Hp) (σ : L2.St) : List V → List Ag → Prop
  | nil : AgAll cl F σ [] []
  | d {v : V} {vs : List V} {x : D} {as : List Ag} : Dx cl F v x → AgAll cl F σ vs as → AgAll cl F σ (v :: vs) (.d x :: as)
  | v {v : V} {vs : List V} {j : Nat} {as : List Ag} : σ[j]? = some (some v) → AgAll cl F σ vs as → AgAll cl F σ (v :: vs) (.v j :: as)
class EvG (cl : PySem.Str → Addr) (ta : TA) (m : MG) : Prop where
  run : ∀ {F H : Hp} {σ : L2.St} {s : S} {ad : Nat → Addr} {as : List Ag} {s' : S}, Ok cl F H σ s ad → m s = some (as, s') → ∀ Q : List V → Hp → Prop, (∀ vs F' H', Po cl F H s ad F' H' σ s' ad → AgAll cl F' σ vs as → Q vs H') → ta σ H Q
def mGNil : MG := fun s => some ([], s)
def mGD (a : M) (r : MG) : MG := fun s => (a s).bind fun p => (r p.2).bind fun q => some (.d p.1 :: q.1, q.2)
def known : Sl → Bool
  | .no => false
  | _ => true
def mGV (j : Nat) (r : MG) : MG := fun s => (s[j]?).bind fun l => if known l = true then (r s).bind fun q => some (.v j :: q.1, q.2) else none
theorem Ok.known {F H : Hp} {σ : L2.St} {s : S} {ad : Nat → Addr} {j : Nat} {l : Sl} (k : Ok cl F H σ s ad) (h : s[j]? = some l) (hk : known l = true) : ∃ v, σ[j]? = some (some v) := by
  cases l with
  | no => cases hk
  | fz d => obtain ⟨v, h1, _⟩ := k.fz j d h; exact ⟨v, h1⟩
  | ow d => exact ⟨_, (k.ow j _ d h rfl).1⟩
  | pm d => exact ⟨_, (k.ow j _ d h rfl).1⟩
  | rb d => exact ⟨_, (k.rb j d h).1⟩
theorem AgAll.mono {F F' : Hp} {σ : L2.St} (e : Ex F F') : ∀ {vs : List V} {as : List Ag}, AgAll cl F σ vs as → AgAll cl F' σ vs as
  | _, _, .nil => .nil
  | _, _, .d h r => .d (h.mono e) (AgAll.mono e r)
  | _, _, .v h r => .v h (AgAll.mono e r)
theorem AgAll.length {F : Hp} {σ : L2.St} : ∀ {vs : List V} {as : List Ag}, AgAll cl F σ vs as → vs.length = as.length
  | _, _, .nil => rfl
  | _, _, .d h r => by rw [List.length_cons, List.length_cons, AgAll.length r]
  | _, _, .v h r => by rw [List.length_cons, List.length_cons, AgAll.length r]
instance g_nil : EvG cl tNil mGNil := ⟨fun {F H σ s ad as s'} k e Q q => by
  cases e
  exact q [] F H (.refl k) .nil⟩
instance g_d {ta : TE} {ma : M} {tr : TA} {mr : MG} [A : EvX cl ta ma] [B : EvG cl tr mr] : EvG cl (tCons ta tr) (mGD ma mr) := ⟨fun {F H σ s ad as s'} k e Q q => by
  obtain ⟨p, e1, e⟩ := bind_some e
  obtain ⟨p2, e2, e⟩ := bind_some e
  cases e
  exact A.run k e1 _ fun v F1 H1 x1 h1 => B.run x1.ok e2 _ fun us F2 H2 x2 h2 => q _ F2 H2 (x1.trans x2) (.d (h1.mono x2.step.ex) h2)⟩
instance g_v {j : Nat} {tr : TA} {mr : MG} [B : EvG cl tr mr] : EvG cl (tCons (tVar j) tr) (mGV j mr) := ⟨fun {F H σ s ad as s'} k e Q q => by
  obtain ⟨l, e0, e⟩ := bind_some e
  by_cases hk : Fr.known l = true
  · rw [if_pos hk] at e
    obtain ⟨p2, e2, e⟩ := bind_some e
    cases e
    obtain ⟨v, hv⟩ := k.known e0 hk
    exact ⟨v, hv, B.run k e2 _ fun us F2 H2 x2 h2 => q _ F2 H2 x2 (.v hv h2)⟩
  · rw [if_neg hk] at e
    cases e⟩
/-! ### a def's slots at its start, and what is left of them -/
def toArg : Sl → Option Sl
  | .no => none
  | .fz d => some (.fz d)
  | .ow d => some (.pm d)
  | .pm d => some (.pm d)
  | .rb d => some (.rb d)
def agS (s : S) : List Ag → Option S
  | [] => some []
  | .d x :: r => (agS s r).map fun t => Sl.fz x :: t
  | .v j :: r => (s[j]?).bind fun l => (toArg l).bind fun a => (agS s r).map fun t => a :: t
def mergeS : S → S → Option S
  | [], _ => some []
  | .fz d :: r, _ :: t => (mergeS r t).map fun u => .fz d :: u
  | .rb d :: r, _ :: t => (mergeS r t).map fun u => .rb d :: u
  | .pm _ :: r, .pm d :: t => (mergeS r t).map fun u => .pm d :: u
  | _, _ => none
def runDefG (m : MS) (n : Nat) (s : S) : Option (D × S) := (m (s ++ List.replicate (n - s.length) .no)).bind fun p => (outD p.1).bind fun d => (mergeS s p.2).map fun t => (d, t)
def backA : List Ag → S → S → S
  | .v j :: as, .pm d :: t, s => backA as t (setCell s j d)
  | _ :: as, _ :: t, s => backA as t s
  | _, _, s => s
/-- the own things among the arguments -/
def cellsA (s : S) : List Ag → List Nat
  | [] => []
  | .v j :: r => if (cellAt s j).isSome = true then j :: cellsA s r else cellsA s r
  | _ :: r => cellsA s r
def nodupN : List Nat → Bool
  | [] => true
  | a :: r => !r.contains a && nodupN r
def spG (cl : PySem.Str → Addr) (np : Nat) (Φ : S → Option (D × S)) : Sp := fun vs H Q _ => vs.length = np ∧ ∃ F s ad d s', Ok cl F H (vs.map some) s ad ∧ Φ s = some (d, s') ∧ ∀ v F' H', Po cl F H s ad F' H' (vs.map some) s' ad → Dx cl F' v d → Q v H'
def callG (np : Nat) (Φ : S → Option (D × S)) (as : List Ag) (s : S) : Option (D × S) := if as.length = np then (if nodupN (cellsA s as) = true then (agS s as).bind fun t => (Φ t).map fun r => (r.1, backA as r.2 s) else none) else none
def mCallG (np : Nat) (Φ : S → Option (D × S)) (a : MG) : M := fun s => (a s).bind fun p => callG np Φ p.1 p.2
theorem ag_at {F : Hp} {σ : L2.St} {s : S} : ∀ {vs : List V} {as : List Ag} {t : S} {i : Nat} {a : Sl}, AgAll cl F σ vs as → agS s as = some t → t[i]? = some a → ∃ v, vs[i]? = some v ∧ ((∃ x, as[i]? = some (.d x) ∧ a = .fz x ∧ Dx cl F v x) ∨ ∃ j l, as[i]? = some (.v j) ∧ s[j]? = some l ∧ toArg l = some a ∧ σ[j]? = some (some v))
  | _, _, t, i, a, .nil, e, h => by
    cases e
    simp at h
  | _, _, t, i, a, .d hd r, e, h => by
    obtain ⟨t1, e1, rfl⟩ := Option.map_eq_some_iff.mp e
    cases i with
    | zero =>
      simp at h
      subst h
      exact ⟨_, rfl, .inl ⟨_, rfl, rfl, hd⟩⟩
    | succ i =>
      obtain ⟨v, h1, h2⟩ := ag_at (i := i) (a := a) r e1 (by simpa using h)
      exact ⟨v, by simpa using h1, by simpa using h2⟩
  | _, _, t, i, a, .v (j := j) hv r, e, h => by
    obtain ⟨l, e1, e⟩ := bind_some e
    obtain ⟨b, e2, e⟩ := bind_some e
    obtain ⟨t1, e3, rfl⟩ := Option.map_eq_some_iff.mp e
    cases i with
    | zero =>
      simp at h
      subst h
      exact ⟨_, rfl, .inr ⟨j, l, rfl, e1, e2, hv⟩⟩
    | succ i =>
      obtain ⟨v, h1, h2⟩ := ag_at (i := i) (a := a) r e3 (by simpa using h)
      exact ⟨v, by simpa using h1, by simpa using h2⟩
theorem agS_len {s : S} : ∀ {as : List Ag} {t : S}, agS s as = some t → t.length = as.length
  | [], t, e => by
    cases e
    rfl
  | .d x :: r, t, e => by
    obtain ⟨t1, e1, rfl⟩ := Option.map_eq_some_iff.mp e
    rw [List.length_cons, List.length_cons, agS_len e1]
  | .v j :: r, t, e => by
    obtain ⟨l, e1, e⟩ := bind_some e
    obtain ⟨b, e2, e⟩ := bind_some e
    obtain ⟨t1, e3, rfl⟩ := Option.map_eq_some_iff.mp e
    rw [List.length_cons, List.length_cons, agS_len e3]
theorem toArg_cell {l a : Sl} {d : D} (h : toArg l = some a) (c : a.cell = some d) : l.cell = some d := by
  cases l <;> cases h <;> first | (cases c; done) | exact c
theorem cells_ne {s : S} : ∀ {as : List Ag} {i i2 j : Nat}, nodupN (cellsA s as) = true → as[i]? = some (.v j) → as[i2]? = some (.v j) → (cellAt s j).isSome = true → i = i2
  | [], i, i2, j, _, h, _, _ => by simp at h
  | a :: r, i, i2, j, hn, h1, h2, hc => by
    have inr : ∀ {r : List Ag} {i : Nat}, r[i]? = some (.v j) → j ∈ cellsA s r := by
      intro r
      induction r with
      | nil => intro i h; simp at h
      | cons b r ih =>
        intro i h
        cases i with
        | zero =>
          simp at h
          subst h
          unfold cellsA
          rw [if_pos hc]
          exact List.mem_cons_self ..
        | succ i =>
          have z := ih (i := i) (by simpa using h)
          cases b with
          | d x => exact z
          | v j2 =>
            unfold cellsA
            split
            · exact List.mem_cons_of_mem _ z
            · exact z
    have tail : nodupN (cellsA s r) = true := by
      cases a with
      | d x => exact hn
      | v j2 =>
        unfold cellsA at hn
        split at hn
        · exact (Bool.and_eq_true_iff.mp hn).2
        · exact hn
    have hd : ∀ {i : Nat}, a = .v j → r[i]? = some (.v j) → False := fun {i} ha hi => by
      subst ha
      unfold cellsA at hn
      rw [if_pos hc] at hn
      have z := (Bool.and_eq_true_iff.mp hn).1
      have m := inr hi
      simp [m] at z
    cases i with
    | zero =>
      cases i2 with
      | zero => rfl
      | succ i2 => exact (hd (by simpa using h1) (by simpa using h2)).elim
    | succ i =>
      cases i2 with
      | zero => exact (hd (by simpa using h2) (by simpa using h1)).elim
      | succ i2 => rw [cells_ne (i := i) (i2 := i2) tail (by simpa using h1) (by simpa using h2) hc]
def adA (as : List Ag) (ad : Nat → Addr) (i : Nat) : Addr := match as[i]? with
  | some (.v j) => ad j
  | _ => 0
theorem ok_args {F H : Hp} {σ : L2.St} {s t : S} {ad : Nat → Addr} {vs : List V} {as : List Ag} (k : Ok cl F H σ s ad) (h : AgAll cl F σ vs as) (hn : nodupN (cellsA s as) = true) (e : agS s as = some t) : Ok cl F H (vs.map some) t (adA as ad) := by
  have cell : ∀ {i : Nat} {a : Sl} {d : D}, t[i]? = some a → a.cell = some d → ∃ v j l, vs[i]? = some v ∧ as[i]? = some (.v j) ∧ s[j]? = some l ∧ l.cell = some d ∧ σ[j]? = some (some v) := fun {i a d} g c => by
    obtain ⟨v, h1, h2⟩ := ag_at h e g
    rcases h2 with ⟨x, _, rfl, _⟩ | ⟨j, l, h3, h4, h5, h6⟩
    · cases c
    · exact ⟨v, j, l, h1, h3, h4, toArg_cell h5 c, h6⟩
  refine ⟨k.ex, by rw [List.length_map, h.length, agS_len e], fun i d g => ?_, fun i a d g c => ?_, fun i i2 a a2 d d2 g c g2 c2 ne => ?_, fun i d g => ?_⟩
  · obtain ⟨v, h1, h2⟩ := ag_at h e g
    refine ⟨v, by rw [List.getElem?_map, h1]; rfl, ?_⟩
    rcases h2 with ⟨x, _, h4, h5⟩ | ⟨j, l, h3, h4, h5, h6⟩
    · cases h4
      exact h5
    · cases l <;> cases h5
      obtain ⟨v2, h7, h8⟩ := k.fz j d h4
      rw [h6] at h7
      cases h7
      exact h8
  · obtain ⟨v, j, l, h1, h2, h3, h4, h5⟩ := cell g c
    obtain ⟨k1, k2, k3⟩ := k.ow j l d h3 h4
    rw [h5] at k1
    cases k1
    have ea : adA as ad i = ad j := by unfold adA; rw [h2]
    rw [ea]
    exact ⟨by rw [List.getElem?_map, h1]; rfl, k2, k3⟩
  · obtain ⟨v, j, l, h1, h2, h3, h4, h5⟩ := cell g c
    obtain ⟨v', j', l', h1', h2', h3', h4', h5'⟩ := cell g2 c2
    have ea : adA as ad i = ad j := by unfold adA; rw [h2]
    have ea' : adA as ad i2 = ad j' := by unfold adA; rw [h2']
    rw [ea, ea']
    refine k.ne j j' l l' d d2 h3 h4 h3' h4' fun z => ne ?_
    subst z
    exact cells_ne hn h2 h2' (by unfold cellAt; rw [h3]; show l.cell.isSome = true; rw [h4]; rfl)
  · obtain ⟨v, h1, h2⟩ := ag_at h e g
    rcases h2 with ⟨x, _, h4, h5⟩ | ⟨j, l, h3, h4, h5, h6⟩
    · cases h4
    · cases l <;> cases h5
      obtain ⟨k1, k2, k3⟩ := k.rb j d h4
      rw [h6] at k1
      cases k1
      have ea : adA as ad i = ad j := by unfold adA; rw [h3]
      rw [ea]
      exact ⟨by rw [List.getElem?_map, h1]; rfl, k2, k3⟩
/-- what is left of the caller's slots -/
theorem setCell_at {s : S} {j0 j : Nat} {d : D} {l : Sl} (h : (setCell s j0 d)[j]? = some l) : ∃ l0, s[j]? = some l0 ∧ ((j = j0 ∧ l = reCell l0 d) ∨ (j ≠ j0 ∧ l = l0)) := by
  unfold setCell at h
  split at h
  · rename_i l1 h1
    rcases get_set h with ⟨rfl, z⟩ | ⟨z1, z2⟩
    · exact ⟨l1, h1, .inl ⟨rfl, z⟩⟩
    · exact ⟨l, z2, .inr ⟨z1, rfl⟩⟩
  · rename_i h1
    exact ⟨l, h, .inr ⟨fun z => (by subst z; rw [h1] at h; cases h), rfl⟩⟩
theorem setCell_len {s : S} {j : Nat} {d : D} : (setCell s j d).length = s.length := by
  unfold setCell
  split
  · rw [List.length_set]
  · rfl
theorem back_len : ∀ {as : List Ag} {t s : S}, (backA as t s).length = s.length
  | [], t, s => by unfold backA; rfl
  | a :: as, [], s => by
    unfold backA
    cases a <;> rfl
  | .d x :: as, b :: t, s => by
    unfold backA
    exact back_len
  | .v j :: as, b :: t, s => by
    cases b with
    | pm d =>
      unfold backA
      rw [back_len, setCell_len]
    | _ =>
      unfold backA
      exact back_len
theorem back_at : ∀ {as : List Ag} {t s : S} {j : Nat} {l : Sl}, (backA as t s)[j]? = some l → ∃ l0, s[j]? = some l0 ∧ ((∃ (i : Nat) (d : D), as[i]? = some (Ag.v j) ∧ t[i]? = some (Sl.pm d) ∧ l = reCell l0 d) ∨ (l = l0 ∧ ∀ (i : Nat) (d : D), as[i]? = some (Ag.v j) → t[i]? ≠ some (Sl.pm d)))
  | [], t, s, j, l, h => by
    unfold backA at h
    exact ⟨l, h, .inr ⟨rfl, fun i d z => (by simp at z)⟩⟩
  | a :: as, [], s, j, l, h => by
    have h2 : s[j]? = some l := by
      cases a <;> (unfold backA at h; exact h)
    exact ⟨l, h2, .inr ⟨rfl, fun i d _ z => (by simp at z)⟩⟩
  | .d x :: as, b :: t, s, j, l, h => by
    unfold backA at h
    obtain ⟨l0, h1, h2⟩ := back_at h
    refine ⟨l0, h1, ?_⟩
    rcases h2 with ⟨i, d, z1, z2, z3⟩ | ⟨z1, z2⟩
    · exact .inl ⟨i + 1, d, by simpa using z1, by simpa using z2, z3⟩
    · refine .inr ⟨z1, fun i d y1 y2 => ?_⟩
      cases i with
      | zero => simp at y1
      | succ i => exact z2 i d (by simpa using y1) (by simpa using y2)
  | .v j0 :: as, b :: t, s, j, l, h => by
    by_cases hb : ∃ d, b = .pm d
    · obtain ⟨d0, rfl⟩ := hb
      unfold backA at h
      obtain ⟨l1, h1, h2⟩ := back_at h
      obtain ⟨l0, h3, h4⟩ := setCell_at h1
      refine ⟨l0, h3, ?_⟩
      rcases h4 with ⟨rfl, rfl⟩ | ⟨ne, rfl⟩
      · rcases h2 with ⟨i, d, z1, z2, z3⟩ | ⟨z1, z2⟩
        · refine .inl ⟨i + 1, d, by simpa using z1, by simpa using z2, ?_⟩
          rw [z3]
          cases l0 <;> rfl
        · exact .inl ⟨0, d0, rfl, rfl, z1⟩
      · rcases h2 with ⟨i, d, z1, z2, z3⟩ | ⟨z1, z2⟩
        · exact .inl ⟨i + 1, d, by simpa using z1, by simpa using z2, z3⟩
        · refine .inr ⟨z1, fun i d y1 y2 => ?_⟩
          cases i with
          | zero =>
            simp at y1
            exact ne y1.symm
          | succ i => exact z2 i d (by simpa using y1) (by simpa using y2)
    · have h' : (backA as t s)[j]? = some l := by
        cases b with
        | pm d => exact absurd ⟨d, rfl⟩ hb
        | _ =>
          unfold backA at h
          exact h
      obtain ⟨l0, h1, h2⟩ := back_at h'
      refine ⟨l0, h1, ?_⟩
      rcases h2 with ⟨i, d, z1, z2, z3⟩ | ⟨z1, z2⟩
      · exact .inl ⟨i + 1, d, by simpa using z1, by simpa using z2, z3⟩
      · refine .inr ⟨z1, fun i d y1 y2 => ?_⟩
        cases i with
        | zero =>
          simp at y2
          exact hb ⟨d, y2⟩
        | succ i => exact z2 i d (by simpa using y1) (by simpa using y2)
theorem back_get : ∀ {as : List Ag} {t s : S} {j : Nat} {l0 : Sl}, s[j]? = some l0 → ∃ l, (backA as t s)[j]? = some l := fun {as t s j l0} h => by
  have hl := (List.getElem?_eq_some_iff.mp h).1
  exact ⟨(backA as t s)[j]'(by rw [back_len]; exact hl), by simp⟩
theorem reCell_keeps {l0 : Sl} {d0 d d1 : D} (h : l0.cell = some d0) (h2 : (reCell l0 d).cell = some d1) : d1 = d := by
  rw [reCell_cell h] at h2
  exact (Option.some.inj h2).symm
theorem po_args {F H F2 H2 : Hp} {σ : L2.St} {s t t2 : S} {ad : Nat → Addr} {vs : List V} {as : List Ag} (k : Ok cl F H σ s ad) (h : AgAll cl F σ vs as) (hn : nodupN (cellsA s as) = true) (e : agS s as = some t) (x : Po cl F H t (adA as ad) F2 H2 (vs.map some) t2 (adA as ad)) : Po cl F H s ad F2 H2 σ (backA as t2 s) ad := by
  have kA := ok_args k h hn e
  have hl2 : t2.length = t.length := by
    have z1 := x.ok.len
    have z2 := kA.len
    omega
  have ownA : ∀ a, own t (adA as ad) a → ∃ (i j : Nat) (l : Sl) (d : D), t[i]? = some (Sl.pm d) ∧ as[i]? = some (.v j) ∧ s[j]? = some l ∧ l.cell = some d ∧ ad j = a := fun a ⟨i, b, d, g, c, z⟩ => by
    obtain ⟨v, h1, h2⟩ := ag_at h e g
    rcases h2 with ⟨x, _, rfl, _⟩ | ⟨j, l, h3, h4, h5, h6⟩
    · cases c
    · have ea : adA as ad i = ad j := by unfold adA; rw [h3]
      refine ⟨i, j, l, d, ?_, h3, h4, toArg_cell h5 c, ea ▸ z⟩
      rw [g]
      cases l <;> cases h5 <;> first | (cases c; done) | (cases c; rfl)
  have st : Step (own s ad) F H F2 H2 := x.step.mono fun a o _ _ => by
    obtain ⟨i, j, l, d, _, _, h3, h4, h5⟩ := ownA a o
    exact ⟨j, l, d, h3, h4, h5⟩
  -- slots that were passed stay cells
  have passed : ∀ {i j : Nat} {l : Sl} {d d2 : D}, as[i]? = some (.v j) → s[j]? = some l → l.cell = some d → t2[i]? = some (.pm d2) → F2 (ad j) = none ∧ Cell cl F2 (H2 (ad j)) d2 := fun {i j l d d2} h1 h2 h3 h4 => by
    obtain ⟨_, y2, y3⟩ := x.ok.ow i _ d2 h4 rfl
    have ea : adA as ad i = ad j := by unfold adA; rw [h1]
    rw [ea] at y2 y3
    exact ⟨y2, y3⟩
  have kept : ∀ {j : Nat} {l : Sl} {d : D}, s[j]? = some l → l.cell = some d → (∀ (i : Nat) (d : D), as[i]? = some (Ag.v j) → t2[i]? ≠ some (Sl.pm d)) → F2 (ad j) = none ∧ Cell cl F2 (H2 (ad j)) d := fun {j l d} h1 h2 h3 => by
    obtain ⟨_, k2, k3⟩ := k.ow j l d h1 h2
    obtain ⟨w1, w2⟩ := x.step.2.2 (ad j) k3.nn
    obtain ⟨w3, w4⟩ := w2 k2 fun o => by
      obtain ⟨i, j', l', d', g1, g2, g3, g4, g5⟩ := ownA _ o
      have ej : j' = j := by
        by_cases z : j' = j
        · exact z
        · exact absurd g5 (k.ne j' j l' l d' d g3 g4 h1 h2 z)
      subst ej
      obtain ⟨_, d3, z3⟩ := x.pms i d' g1
      exact h3 i d3 g2 z3
    rw [w4]
    exact ⟨w3 k3.nt, k3.mono x.step.ex⟩
  refine ⟨st, ⟨x.ok.ex, by rw [back_len]; exact k.len, fun j d g => ?_, fun j l d g c => ?_, fun j j2 l l2 d d2 g c g2 c2 ne => ?_, fun j d g => ?_⟩, fun a o => ?_, fun j d g => ⟨rfl, ?_⟩⟩
  · obtain ⟨l0, h1, h2⟩ := back_at g
    have e0 : l0 = .fz d := by
      rcases h2 with ⟨i, d2, _, _, z⟩ | ⟨z, _⟩
      · cases l0 <;> first | (cases z; done) | (cases z; rfl)
      · exact z.symm
    subst e0
    obtain ⟨v, y1, y2⟩ := k.fz j d h1
    exact ⟨v, y1, y2.mono st.ex⟩
  · obtain ⟨l0, h1, h2⟩ := back_at g
    rcases h2 with ⟨i, d2, z1, z2, z3⟩ | ⟨z1, z2⟩
    · have hc0 : ∃ d0, l0.cell = some d0 := by
        subst z3
        cases l0 <;> first | (cases c; done) | exact ⟨_, rfl⟩
      obtain ⟨d0, hc0⟩ := hc0
      subst z3
      have ed := reCell_keeps hc0 c
      subst ed
      obtain ⟨y1, y2⟩ := passed z1 h1 hc0 z2
      exact ⟨(k.ow j l0 d0 h1 hc0).1, y1, y2⟩
    · subst z1
      obtain ⟨y1, y2⟩ := kept h1 c z2
      exact ⟨(k.ow j l d h1 c).1, y1, y2⟩
  · have cz : ∀ {j : Nat} {l : Sl} {d : D}, (backA as t2 s)[j]? = some l → l.cell = some d → ∃ l0 d0, s[j]? = some l0 ∧ l0.cell = some d0 := fun {j l d} g c => by
      obtain ⟨l0, h1, h2⟩ := back_at g
      rcases h2 with ⟨i, d2, z1, z2, z3⟩ | ⟨z1, z2⟩
      · subst z3
        cases l0 <;> first | (cases c; done) | exact ⟨_, _, h1, rfl⟩
      · subst z1
        exact ⟨_, _, h1, c⟩
    obtain ⟨l0, d0, y1, y2⟩ := cz g c
    obtain ⟨l0', d0', y1', y2'⟩ := cz g2 c2
    exact k.ne j j2 l0 l0' d0 d0' y1 y2 y1' y2' ne
  · obtain ⟨l0, h1, h2⟩ := back_at g
    have e0 : l0 = .rb d := by
      rcases h2 with ⟨i, d2, _, _, z⟩ | ⟨z, _⟩
      · cases l0 <;> first | (cases z; done) | (cases z; rfl)
      · exact z.symm
    subst e0
    obtain ⟨y1, y2, od, u, y3, y4⟩ := k.rb j d h1
    obtain ⟨w1, w2⟩ := x.step.2.2 (ad j) (by rw [y3]; exact fun z => nomatch z)
    obtain ⟨w3, w4⟩ := w2 y2 (kA.nfz y3)
    exact ⟨y1, w3 (by rw [y3]; exact fun _ z => nomatch z), od, u, by rw [w4]; exact y3, y4.mono st.ex⟩
  · obtain ⟨j, l, d, g, c, rfl⟩ := o
    obtain ⟨l0, h1, h2⟩ := back_at g
    refine .inl ?_
    rcases h2 with ⟨i, d2, z1, z2, z3⟩ | ⟨z1, z2⟩
    · subst z3
      cases l0 <;> first | (cases c; done) | exact ⟨j, _, _, h1, rfl, rfl⟩
    · subst z1
      exact ⟨j, _, _, h1, c, rfl⟩
  · obtain ⟨l, hl⟩ := back_get (as := as) (t := t2) g
    obtain ⟨l0, h1, h2⟩ := back_at hl
    rw [g] at h1
    cases h1
    rcases h2 with ⟨i, d2, _, _, z⟩ | ⟨z, _⟩
    · subst z
      exact ⟨d2, hl⟩
    · subst z
      exact ⟨d, hl⟩
instance i_callG {np : Nat} {Φ : S → Option (D × S)} {E : XK} {t : TA} {mt : MG} [A : EvG cl t mt] : EvX cl (tCall (spG cl np Φ) [] E t) (mCallG np Φ mt) := ⟨fun {F H σ s ad d s'} k e Q q => by
  obtain ⟨⟨as, s1⟩, e1, e⟩ := bind_some e
  dsimp only [callG] at e
  by_cases hl : as.length = np
  · rw [if_pos hl] at e
    by_cases hn : nodupN (cellsA s1 as) = true
    · rw [if_pos hn] at e
      obtain ⟨t0, e2, e⟩ := bind_some e
      obtain ⟨⟨d1, t1⟩, e3, e⟩ := Option.map_eq_some_iff.mp e
      cases e
      refine A.run k e1 _ fun vs F1 H1 x1 h1 => ?_
      refine ⟨by rw [List.append_nil, h1.length]; exact hl, F1, t0, adA as ad, d1, t1, ?_, e3, fun v F2 H2 x2 h2 => ?_⟩
      · rw [List.append_nil]
        exact ok_args x1.ok h1 hn e2
      · rw [List.append_nil] at x2
        exact q v F2 H2 (x1.trans (po_args x1.ok h1 hn e2 x2)) h2
    · rw [if_neg hn] at e
      cases e
  · rw [if_neg hl] at e
    cases e⟩
/-! ### a def's promise -/
theorem startG {s : S} {n i : Nat} {l : Sl} (h : (s ++ List.replicate n Sl.no)[i]? = some l) : s[i]? = some l ∨ l = .no := by
  rcases get_app h with z | ⟨_, z⟩
  · exact .inl z
  · exact .inr (rep_no z)
theorem ok_startG {F H : Hp} {N : List PySem.Str} {vs : List V} {s : S} {ad : Nat → Addr} (k : Ok cl F H (vs.map some) s ad) : Ok cl F H (L2.start N vs) (s ++ List.replicate (N.length - s.length) Sl.no) ad := by
  have ln : vs.length = s.length := by
    have z := k.len
    rw [List.length_map] at z
    exact z
  have sl : ∀ {i : Nat} {v : V}, (vs.map some)[i]? = some (some v) → (L2.start N vs)[i]? = some (some v) := fun {i v} h => by
    unfold L2.start
    have hl := (List.getElem?_eq_some_iff.mp h).1
    rw [List.getElem?_append_left hl]
    exact h
  refine ⟨k.ex, ?_, fun i d g => ?_, fun i l d g c => ?_, fun i j l m d f g c g2 c2 ne => ?_, fun i d g => ?_⟩
  · unfold L2.start
    simp [ln]
  · rcases startG g with z | z
    · obtain ⟨v, h1, h2⟩ := k.fz i d z
      exact ⟨v, sl h1, h2⟩
    · cases z
  · rcases startG g with z | z
    · obtain ⟨h1, h2, h3⟩ := k.ow i l d z c
      exact ⟨sl h1, h2, h3⟩
    · subst z
      cases c
  · rcases startG g with z | z
    · rcases startG g2 with z2 | z2
      · exact k.ne i j l m d f z c z2 c2 ne
      · subst z2
        cases c2
    · subst z
      cases c
  · rcases startG g with z | z
    · obtain ⟨h1, h2, h3⟩ := k.rb i d z
      exact ⟨sl h1, h2, h3⟩
    · cases z
theorem own_startG {s : S} {n : Nat} {ad : Nat → Addr} {a : Addr} (h : own (s ++ List.replicate n Sl.no) ad a) : own s ad a := by
  obtain ⟨i, l, d, g, c, rfl⟩ := h
  rcases startG g with z | z
  · exact ⟨i, l, d, z, c, rfl⟩
  · subst z
    cases c
theorem merge_at : ∀ {s p t : S} {i : Nat} {l : Sl}, mergeS s p = some t → t[i]? = some l → (∃ d, l = .fz d ∧ s[i]? = some (.fz d)) ∨ (∃ d, l = .rb d ∧ s[i]? = some (.rb d)) ∨ ∃ d d2, l = .pm d2 ∧ s[i]? = some (.pm d) ∧ p[i]? = some (.pm d2)
  | [], p, t, i, l, e, h => by
    simp only [mergeS] at e
    cases e
    simp at h
  | .no :: r, p, t, i, l, e, h => by cases p <;> simp [mergeS] at e
  | .ow d :: r, p, t, i, l, e, h => by cases p <;> simp [mergeS] at e
  | a :: r, [], t, i, l, e, h => by cases a <;> simp [mergeS] at e
  | .fz d :: r, b :: p, t, i, l, e, h => by
    simp only [mergeS] at e
    obtain ⟨u, e1, rfl⟩ := Option.map_eq_some_iff.mp e
    cases i with
    | zero =>
      simp at h
      subst h
      exact .inl ⟨d, rfl, rfl⟩
    | succ i => simpa using merge_at (i := i) e1 (by simpa using h)
  | .rb d :: r, b :: p, t, i, l, e, h => by
    simp only [mergeS] at e
    obtain ⟨u, e1, rfl⟩ := Option.map_eq_some_iff.mp e
    cases i with
    | zero =>
      simp at h
      subst h
      exact .inr (.inl ⟨d, rfl, rfl⟩)
    | succ i => simpa using merge_at (i := i) e1 (by simpa using h)
  | .pm d :: r, b :: p, t, i, l, e, h => by
    cases b with
    | pm d2 =>
      simp only [mergeS] at e
      obtain ⟨u, e1, rfl⟩ := Option.map_eq_some_iff.mp e
      cases i with
      | zero =>
        simp at h
        subst h
        exact .inr (.inr ⟨d, d2, rfl, rfl, rfl⟩)
      | succ i => simpa using merge_at (i := i) e1 (by simpa using h)
    | _ => simp [mergeS] at e
theorem merge_len : ∀ {s p t : S}, mergeS s p = some t → t.length = s.length
  | [], p, t, e => by
    simp only [mergeS] at e
    cases e
    rfl
  | .no :: r, p, t, e => by cases p <;> simp [mergeS] at e
  | .ow d :: r, p, t, e => by cases p <;> simp [mergeS] at e
  | a :: r, [], t, e => by cases a <;> simp [mergeS] at e
  | .fz d :: r, b :: p, t, e => by
    simp only [mergeS] at e
    obtain ⟨u, e1, rfl⟩ := Option.map_eq_some_iff.mp e
    rw [List.length_cons, List.length_cons, merge_len e1]
  | .rb d :: r, b :: p, t, e => by
    simp only [mergeS] at e
    obtain ⟨u, e1, rfl⟩ := Option.map_eq_some_iff.mp e
    rw [List.length_cons, List.length_cons, merge_len e1]
  | .pm d :: r, b :: p, t, e => by
    cases b with
    | pm d2 =>
      simp only [mergeS] at e
      obtain ⟨u, e1, rfl⟩ := Option.map_eq_some_iff.mp e
      rw [List.length_cons, List.length_cons, merge_len e1]
    | _ => simp [mergeS] at e
theorem merge_pm : ∀ {s p t : S} {i : Nat} {d : D}, mergeS s p = some t → s[i]? = some (.pm d) → ∃ d2, t[i]? = some (.pm d2) := fun {s p t i d} e h => by
  have hl := (List.getElem?_eq_some_iff.mp h).1
  have hl2 : i < t.length := by rw [merge_len e]; exact hl
  have g : t[i]? = some t[i] := by simp [hl2]
  rcases merge_at e g with ⟨d', z1, z2⟩ | ⟨d', z1, z2⟩ | ⟨d', d2, z1, z2, z3⟩
  · rw [h] at z2
    cases z2
  · rw [h] at z2
    cases z2
  · exact ⟨d2, by rw [g, z1]⟩
theorem po_merge {F H F' H' : Hp} {N : List PySem.Str} {vs : List V} {σ' : L2.St} {s p t : S} {ad ad' : Nat → Addr} (k : Ok cl F H (vs.map some) s ad) (y : Po cl F H (s ++ List.replicate (N.length - s.length) Sl.no) ad F' H' σ' p ad') (e : mergeS s p = some t) : Po cl F H s ad F' H' (vs.map some) t ad := by
  have st : Step (own s ad) F H F' H' := y.step.mono fun a o _ _ => own_startG o
  have cz : ∀ {i : Nat} {l : Sl} {d : D}, t[i]? = some l → l.cell = some d → ∃ d0, l = .pm d ∧ s[i]? = some (.pm d0) ∧ p[i]? = some (.pm d) := fun {i l d} g c => by
    rcases merge_at e g with ⟨d', z1, z2⟩ | ⟨d', z1, z2⟩ | ⟨d', d2, z1, z2, z3⟩
    · subst z1
      cases c
    · subst z1
      cases c
    · subst z1
      cases c
      exact ⟨d', rfl, z2, z3⟩
  refine ⟨st, ⟨y.ok.ex, by rw [k.len, merge_len e], fun i d g => ?_, fun i l d g c => ?_, fun i j l m d f g c g2 c2 ne => ?_, fun i d g => ?_⟩, fun a o => ?_, fun i d g => ⟨rfl, merge_pm e g⟩⟩
  · rcases merge_at e g with ⟨d', z1, z2⟩ | ⟨d', z1, z2⟩ | ⟨d', d2, z1, z2, z3⟩
    · cases z1
      obtain ⟨v, h1, h2⟩ := k.fz i d z2
      exact ⟨v, h1, h2.mono st.ex⟩
    · cases z1
    · cases z1
  · obtain ⟨d0, rfl, h1, h2⟩ := cz g c
    obtain ⟨k1, _, _⟩ := k.ow i _ d0 h1 rfl
    obtain ⟨_, y2, y3⟩ := y.ok.ow i _ d h2 rfl
    have h3 : (s ++ List.replicate (N.length - s.length) Sl.no)[i]? = some (.pm d0) := by
      rw [List.getElem?_append_left (List.getElem?_eq_some_iff.mp h1).1]
      exact h1
    obtain ⟨ea, _⟩ := y.pms i d0 h3
    rw [ea] at y2 y3
    exact ⟨k1, y2, y3⟩
  · obtain ⟨d0, _, h1, h2⟩ := cz g c
    obtain ⟨d0', _, h1', h2'⟩ := cz g2 c2
    exact k.ne i j _ _ d0 d0' h1 rfl h1' rfl ne
  · rcases merge_at e g with ⟨d', z1, z2⟩ | ⟨d', z1, z2⟩ | ⟨d', d2, z1, z2, z3⟩
    · cases z1
    · cases z1
      obtain ⟨y1, y2, od, u, y3, y4⟩ := k.rb i d z2
      obtain ⟨w1, w2⟩ := st.2.2 (ad i) (by rw [y3]; exact fun z => nomatch z)
      obtain ⟨w3, w4⟩ := w2 y2 (k.nfz y3)
      exact ⟨y1, w3 (by rw [y3]; exact fun _ z => nomatch z), od, u, by rw [w4]; exact y3, y4.mono st.ex⟩
    · cases z1
  · obtain ⟨i, l, d, g, c, rfl⟩ := o
    obtain ⟨d0, _, h1, h2⟩ := cz g c
    exact .inl ⟨i, _, d0, h1, rfl, rfl⟩
section
variable {P : Program} {w : World} {K : PySem.W.Frag} {mg : PySem.Str → Option Value} {base : Heap} {x qual : PySem.Str} {params : Arguments} {body : List Stmt} {scope : Scope} {dvs : List V} {kws : List (PySem.Str × V)} {f : Addr} {fd : FuncData}
theorem okG {CX : CXT} {N ps : List PySem.Str} {k np : Nat} {m : MS} {Φ : S → Option (D × S)} (F : FunD K x qual params body scope dvs kws f fd) (S : FnScope N ps scope) (hn : ps.length = np) (hΦ : runDefG m N.length = Φ)
    (hbody : ∀ (cdv : Value) (A : Around) (outer : List Env) (s : Shared) (H : Hp) (E : XK), Room k (A.deeper (envOfC qual scope s.heap.objs.size f cdv)) → ∃ t, PSs (cxOf CX P w K mg base N qual scope f cdv A outer s H E) body t ∧ EvS cl t m) :
    FnOk P w K mg base CX (k + 1) f fd ps (spG cl np Φ) := by
  subst hn hΦ
  refine F.ok S (fun vs H Q E h => h.1) ?_
  intro cdv A outer s H vs Q E hr h
  obtain ⟨t, h1, h2⟩ := hbody cdv A outer s H E hr
  refine ⟨t, h1, ?_⟩
  obtain ⟨_, F0, sa, ad, d, s2, k0, e, q⟩ := h
  obtain ⟨⟨o, p⟩, e1, e⟩ := bind_some e
  obtain ⟨d1, e2, e⟩ := bind_some e
  obtain ⟨t2, e3, e⟩ := Option.map_eq_some_iff.mp e
  cases e
  refine h2.run (ok_startG k0) e1 _ ?_
  cases o with
  | nx =>
    cases e2
    exact fun F' H' σ' ad' y => q .non F' H' (po_merge k0 y e3) .non
  | ret r =>
    cases e2
    exact fun v F' H' σ' ad' y hv => q v F' H' (po_merge k0 y e3) hv
  | brk => cases e2
  | cnt => cases e2
end
theorem spG_less {np : Nat} {Φ Ψ : S → Option (D × S)} (h : ∀ s r, Ψ s = some r → Φ s = some r) {vs : List V} {H : Hp} {Q : VK} {E : XK} (z : spG cl np Ψ vs H Q E) : spG cl np Φ vs H Q E := by
  obtain ⟨z1, F, t, ad, d, t2, z2, z3, z4⟩ := z
  exact ⟨z1, F, t, ad, d, t2, z2, h _ _ z3, z4⟩
/-- less may be promised -/
theorem FnOk.less {P : Program} {w : World} {K : PySem.W.Frag} {mg : PySem.Str → Option Value} {base : Heap} {CX : CXT} {k : Nat} {f : Addr} {fd : FuncData} {ps : List PySem.Str} {np : Nat} {Φ Ψ : S → Option (D × S)} (G : FnOk P w K mg base CX k f fd ps (spG cl np Φ)) (h : ∀ s r, Ψ s = some r → Φ s = some r) : FnOk P w K mg base CX k f fd ps (spG cl np Ψ) where
  len := fun vs H Q E z => G.len vs H Q E (spG_less h z)
  run := fun A outer s H args us vs Q E h1 h2 h3 h4 z => G.run A outer s H args us vs Q E h1 h2 h3 h4 (spG_less h z)
theorem okG_zero {P : Program} {w : World} {K : PySem.W.Frag} {mg : PySem.Str → Option Value} {base : Heap} {CX : CXT} {k np : Nat} {f : Addr} {fd : FuncData} {ps : List PySem.Str} : FnOk P w K mg base CX k f fd ps (spG cl np fun _ => none) :=
  { len := fun vs H Q E h => (by
      obtain ⟨_, F, s, ad, d, s', _, e, _⟩ := h
      cases e)
    run := fun A outer s H args us vs Q E _ _ _ _ h => (by
      obtain ⟨_, F, s, ad, d, s', _, e, _⟩ := h
      cases e) }
end Fr

set_option Elab.async false
set_option linter.all false
set_option maxRecDepth 100000
set_option maxHeartbeats 2000000
namespace Fr
open PySem PySem.Spec PyProof.Rows L2 Evl RZ
variable {cl : PySem.Str → Addr}
/-! ### what a variable holds, read: data, an own thing, a thing lent -/
def Vw (cl : PySem.Str → Addr) (F H : Hp) (v : V) (c : D) : Prop := Dx cl F v c ∨ ∃ a, v = .ref a ∧ (Cell cl F (H a) c ∨ RbC cl F (H a) c)
def rdS (s : S) (j : Nat) : Option D := match s[j]? with
  | some (.fz d) => some d
  | some (.ow d) => some d
  | some (.pm d) => some d
  | some (.rb d) => some d
  | _ => none
section
variable {F H : Hp} {σ : L2.St} {s : S} {ad : Nat → Addr} {v : V} {j : Nat} {c : D}
theorem Ok.view (k : Ok cl F H σ s ad) (h : rdS s j = some c) : ∃ v, σ[j]? = some (some v) ∧ Vw cl F H v c := by
  unfold rdS at h
  split at h <;> first | (cases h; done) | skip
  · rename_i h0
    cases h
    obtain ⟨v, h1, h2⟩ := k.fz j _ h0
    exact ⟨v, h1, .inl h2⟩
  · rename_i h0
    cases h
    obtain ⟨h1, _, h3⟩ := k.ow j _ _ h0 rfl
    exact ⟨_, h1, .inr ⟨_, rfl, .inl h3⟩⟩
  · rename_i h0
    cases h
    obtain ⟨h1, _, h3⟩ := k.ow j _ _ h0 rfl
    exact ⟨_, h1, .inr ⟨_, rfl, .inl h3⟩⟩
  · rename_i h0
    cases h
    obtain ⟨h1, _, h3⟩ := k.rb j _ h0
    exact ⟨_, h1, .inr ⟨_, rfl, .inr h3⟩⟩
theorem vw_lst {ds : List D} (e : Ex F H) (h : Vw cl F H v (.lst ds)) : ∃ a xs, v = .ref a ∧ Rd H a (.lst xs) ∧ DxAll cl F xs ds := by
  rcases h with h | ⟨a, rfl, h | ⟨od, u, h1, h2⟩⟩
  · cases h with
    | lst h1 h2 => exact ⟨_, _, rfl, .inl (e _ _ h1), h2⟩
  · obtain ⟨xs, h1, h2⟩ := h
    exact ⟨a, xs, rfl, .inl h1, h2⟩
  · obtain ⟨xs, h3, h4⟩ := h2
    cases h3
    exact ⟨a, xs, rfl, .inr ⟨od, h1⟩, h4⟩
theorem vw_dk {ks : List Key} {ds : List D} (e : Ex F H) (h : Vw cl F H v (.dk ks ds)) : ∃ a us, v = .ref a ∧ Rd H a (.dK (ks.zip us)) ∧ KL ks us ∧ DxAll cl F us ds := by
  rcases h with h | ⟨a, rfl, h | ⟨od, u, h1, h2⟩⟩
  · cases h with
    | dk h1 h2 h3 => exact ⟨_, _, rfl, .inr ⟨_, e _ _ h1⟩, h2, h3⟩
  · obtain ⟨us, h1, h2, h3⟩ := h
    exact ⟨a, us, rfl, .inl h1, h2, h3⟩
  · obtain ⟨us, h3, h4, h5⟩ := h2
    cases h3
    exact ⟨a, us, rfl, .inr ⟨od, h1⟩, h4, h5⟩
theorem vw_dt {ks : List (List Key)} {ds : List D} (e : Ex F H) (h : Vw cl F H v (.dt ks ds)) : ∃ a us, v = .ref a ∧ Rd H a (.dT (ks.zip us)) ∧ KT2 ks us ∧ DxAll cl F us ds := by
  rcases h with h | ⟨a, rfl, h | ⟨od, u, h1, h2⟩⟩
  · cases h with
    | dt h1 h2 h3 => exact ⟨_, _, rfl, .inr ⟨_, e _ _ h1⟩, h2, h3⟩
  · obtain ⟨us, h1, h2, h3⟩ := h
    exact ⟨a, us, rfl, .inl h1, h2, h3⟩
  · obtain ⟨us, h3, h4, h5⟩ := h2
    cases h3
    exact ⟨a, us, rfl, .inr ⟨od, h1⟩, h4, h5⟩
theorem vw_get {y : V} {dy : D} {o : Option D} (e : Ex F H) (h : Vw cl F H v c) (hy : Dx cl F y dy) (k : dGetO c dy = some o) : ∃ a r, v = .ref a ∧ IsD H a ∧ DGet H a y r ∧ (o = none → r = none) ∧ ∀ d, o = some d → ∃ v, r = some v ∧ Dx cl F v d := by
  cases c with
  | dk ks ds =>
    obtain ⟨a, us, rfl, h1, h2, h3⟩ := vw_dk e h
    obtain ⟨kk, k1, rfl⟩ := Option.map_eq_some_iff.mp k
    obtain ⟨z1, z2⟩ := val_dx (k := kk) (ks := ks) h3
    have ey := key_dx hy k1
    subst ey
    exact ⟨a, _, rfl, .inl ⟨_, h1⟩, .inl ⟨_, kk, h1, rfl, rfl⟩, z2, z1⟩
  | dt ks ds =>
    obtain ⟨a, us, rfl, h1, h2, h3⟩ := vw_dt e h
    obtain ⟨kk, k1, rfl⟩ := Option.map_eq_some_iff.mp k
    obtain ⟨z1, z2⟩ := val_dx (k := kk) (ks := ks) h3
    cases hy with
    | @tup b ys es hb db =>
      have ey := keys_dx db k1
      subst ey
      exact ⟨a, _, rfl, .inr ⟨_, h1⟩, .inr ⟨_, kk, b, h1, rfl, e _ _ hb, rfl⟩, z2, z1⟩
    | _ => cases k1
  | _ => cases k
theorem vw_dict (e : Ex F H) (h : Vw cl F H v c) (hc : c.isDict = true) : ∃ a, v = .ref a ∧ IsD H a := by
  cases c with
  | dk ks ds =>
    obtain ⟨a, us, rfl, h1, _⟩ := vw_dk e h
    exact ⟨a, rfl, .inl ⟨_, h1⟩⟩
  | dt ks ds =>
    obtain ⟨a, us, rfl, h1, _⟩ := vw_dt e h
    exact ⟨a, rfl, .inr ⟨_, h1⟩⟩
  | _ => cases hc
theorem vw_in {K : PySem.W.Frag} {x : V} {dx : D} {b : Bool} (e : Ex F H) (hx : Dx cl F x dx) (hy : Vw cl F H v c) (k : inD dx c = some b) :
    (∃ (i : Nat) (z : PySem.Str), x = .str ⟨#[i]⟩ ∧ v = .str z ∧ decide (i ∈ z.cps.toList) = b) ∨ ∃ d ds, Dp K H x d ∧ Dp K H v (.list ds) ∧ SeqAt.shaped d = true ∧ SeqAt.shaped (.list ds) = true ∧ (ds.any fun z => PyData.eqv z d) = b := by
  cases c with
  | lst ds =>
    obtain ⟨a, xs, rfl, h1, h2⟩ := vw_lst e hy
    obtain ⟨h, rfl⟩ := cond_some k
    obtain ⟨h3, h4⟩ := Bool.and_eq_true_iff.mp h
    have p2 := D.shp_plain h4
    have p3 : plains ds = true := by simpa only [D.plain] using p2
    refine .inr ⟨dx.py, pys ds, (hx.mono e).dp (D.shp_plain h3), .lst (.inl h1) ((h2.mono e).dp p3), hx.shaped h3, ?_, rfl⟩
    unfold D.shp at h4
    obtain ⟨_, h5⟩ := Bool.and_eq_true_iff.mp h4
    simp only [D.py] at h5
    unfold SeqAt.shaped
    exact Bool.and_eq_true_iff.mpr ⟨by simp only [PyData.canLay0]; exact h2.lay p3, decide_eq_true (of_decide_eq_true h5)⟩
  | str z =>
    rcases hy with hy | ⟨a, _, h | ⟨_, _, _, h⟩⟩
    · exact in_run e hx hy k
    · exact h.elim
    · exact h.elim
  | _ => cases k
end
def mInV (neg : Bool) (a : M) (j : Nat) : M := fun s => (a s).bind fun p => (rdS p.2 j).bind fun c => (inW p.1 c).map fun b => (.bl (if neg = true then !b else b), p.2)
instance i_inV {K : PySem.W.Frag} {j : Nat} {ta : TE} {ma : M} [A : EvX cl ta ma] : EvX cl (tOp (rInW K) ta (tVar j)) (mInV false ma j) := ⟨fun {F H σ s ad d s'} k e Q q => by
  obtain ⟨⟨dx, s1⟩, e1, e⟩ := bind_some e
  obtain ⟨c, e2, e⟩ := bind_some e
  obtain ⟨b, e3, e⟩ := Option.map_eq_some_iff.mp e
  cases e
  refine A.run k e1 _ fun v F1 H1 x1 h1 => ?_
  obtain ⟨u, k1, vw⟩ := x1.ok.view e2
  refine ⟨u, k1, ?_⟩
  unfold inW at e3
  split at e3
  · rename_i o ho
    cases e3
    obtain ⟨a, r, rfl, _, g, z1, z2⟩ := vw_get x1.ok.ex vw h1 ho
    exact .inr ⟨a, r, rfl, g, by rw [isSome_dx z1 z2]; exact q _ _ _ x1 (.bl _)⟩
  · rcases vw_in (K := K) x1.ok.ex h1 vw e3 with ⟨c, z, rfl, rfl, rfl⟩ | ⟨d, ds, h1, h2, h3, h4, rfl⟩
    · exact .inl (.inl ⟨c, z, rfl, rfl, q _ _ _ x1 (.bl _)⟩)
    · exact .inl (.inr (.inl ⟨d, ds, h1, h2, h3, h4, q _ _ _ x1 (.bl _)⟩))⟩
instance i_niV {K : PySem.W.Frag} {j : Nat} {ta : TE} {ma : M} [A : EvX cl ta ma] : EvX cl (tOp (rNiW K) ta (tVar j)) (mInV true ma j) := ⟨fun {F H σ s ad d s'} k e Q q => by
  obtain ⟨⟨dx, s1⟩, e1, e⟩ := bind_some e
  obtain ⟨c, e2, e⟩ := bind_some e
  obtain ⟨b, e3, e⟩ := Option.map_eq_some_iff.mp e
  cases e
  refine A.run k e1 _ fun v F1 H1 x1 h1 => ?_
  obtain ⟨u, k1, vw⟩ := x1.ok.view e2
  refine ⟨u, k1, ?_⟩
  unfold inW at e3
  split at e3
  · rename_i o ho
    cases e3
    obtain ⟨a, r, rfl, _, g, z1, z2⟩ := vw_get x1.ok.ex vw h1 ho
    exact .inr ⟨a, r, rfl, g, by rw [isSome_dx z1 z2]; exact q _ _ _ x1 (.bl _)⟩
  · rcases vw_in (K := K) x1.ok.ex h1 vw e3 with ⟨c, z, rfl, rfl, rfl⟩ | ⟨d, ds, h1, h2, h3, h4, rfl⟩
    · exact .inl (.inl ⟨c, z, rfl, rfl, q _ _ _ x1 (.bl _)⟩)
    · exact .inl (.inr (.inl ⟨d, ds, h1, h2, h3, h4, q _ _ _ x1 (.bl _)⟩))⟩
/-- v.get(k, x) -/
def mGetV (j : Nat) (mk mx : M) : M := fun s => (rdS s j).bind fun c0 => if c0.isDict = true then (mk s).bind fun r => (mx r.2).bind fun z => (rdS z.2 j).bind fun c => (dGetO c r.1).map fun o => (o.getD z.1, z.2) else none
instance i_getV {j : Nat} {tk tx : TE} {mk mx : M} [B : EvX cl tk mk] [C : EvX cl tx mx] : EvX cl (tDGet2 (tVar j) tk tx) (mGetV j mk mx) := ⟨fun {F H σ s ad d s'} k e Q q => by
  obtain ⟨c0, h0, e⟩ := bind_some e
  by_cases hd : c0.isDict = true
  · rw [if_pos hd] at e
    obtain ⟨⟨d2, s2⟩, e2, e⟩ := bind_some e
    obtain ⟨⟨d3, s3⟩, e3, e⟩ := bind_some e
    obtain ⟨c, h1, e⟩ := bind_some e
    obtain ⟨o, e4, e⟩ := Option.map_eq_some_iff.mp e
    cases e
    obtain ⟨v0, k1, vw0⟩ := k.view h0
    obtain ⟨a, rfl, hD⟩ := vw_dict k.ex vw0 hd
    refine ⟨_, k1, a, rfl, hD, B.run k e2 _ fun u F2 H2 x2 v2 => C.run x2.ok e3 _ fun z F3 H3 x3 v3 => ?_⟩
    have x := x2.trans x3
    obtain ⟨v1, k2, vw1⟩ := x.ok.view h1
    rw [k1] at k2
    cases k2
    obtain ⟨a', r, ea, _, g, z1, z2⟩ := vw_get x.ok.ex vw1 (v2.mono x3.step.ex) e4
    cases ea
    refine ⟨r, g, ?_⟩
    cases o with
    | none =>
      rw [z1 rfl]
      exact q _ _ _ x v3
    | some dd =>
      obtain ⟨vv, rfl, hv⟩ := z2 dd rfl
      exact q _ _ _ x hv
  · rw [if_neg hd] at e
    cases e⟩
/-- v[k] -/
def ixV (c i : D) : Option D := match dGetO c i with
  | some o => o
  | none => dIx c i
def mIxV (j : Nat) (mi : M) : M := fun s => (rdS s j).bind fun _ => (mi s).bind fun p => (rdS p.2 j).bind fun c => (ixV c p.1).map fun d => (d, p.2)
instance i_ixV {K : PySem.W.Frag} {j : Nat} {ti : TE} {mi : M} [B : EvX cl ti mi] : EvX cl (tOp (rIxW K) (tVar j) ti) (mIxV j mi) := ⟨fun {F H σ s ad d s'} k e Q q => by
  obtain ⟨c0, h0, e⟩ := bind_some e
  obtain ⟨⟨di, s1⟩, e1, e⟩ := bind_some e
  obtain ⟨c, h1, e⟩ := bind_some e
  obtain ⟨r, e2, e⟩ := Option.map_eq_some_iff.mp e
  cases e
  obtain ⟨v0, k1, vw0⟩ := k.view h0
  refine ⟨v0, k1, B.run k e1 _ fun u F1 H1 x1 hu => ?_⟩
  obtain ⟨v1, k2, vw⟩ := x1.ok.view h1
  rw [k1] at k2
  cases k2
  unfold ixV at e2
  split at e2
  · rename_i o ho
    obtain ⟨a, r, rfl, _, g, _, z⟩ := vw_get x1.ok.ex vw hu ho
    obtain ⟨v, rfl, hv⟩ := z _ e2
    exact .inr ⟨a, v, rfl, g, q _ _ _ x1 hv⟩
  · rcases vw with vw | ⟨a, rfl, vw⟩
    · refine .inl (ox_ix.run x1.ok.ex vw hu e2 Q fun v2 F2 H2 st h2 => ?_)
      exact q _ _ _ (x1.trans (.step0 x1.ok st)) h2
    · cases c with
      | lst ds =>
        obtain ⟨a', xs, ea, g1, g2⟩ := vw_lst (v := .ref a) x1.ok.ex (.inr ⟨a, rfl, vw⟩)
        cases ea
        cases hu with
        | int i =>
          obtain ⟨n, f1, f2⟩ := atI_map g2.length e2
          obtain ⟨v, w1, w2⟩ := g2.get f2
          exact .inl (.inl ⟨a, xs, i, v, rfl, rfl, .inl g1, by unfold atI; rw [f1]; exact w1, q _ _ _ x1 w2⟩)
        | _ => cases e2
      | tup ds =>
        rcases vw with vw | ⟨_, _, _, vw⟩ <;> exact vw.elim
      | str x =>
        rcases vw with vw | ⟨_, _, _, vw⟩ <;> exact vw.elim
      | _ => cases e2⟩
/-- len(v) of a list -/
def mLenV (j : Nat) : M := fun s => (rdS s j).bind fun c => match c with
  | .lst ds => some (.int ds.length, s)
  | _ => none
instance i_lenV {K : PySem.W.Frag} {j : Nat} : EvX cl (tCB (U.rLenU K) (tCons (tVar j) tNil)) (mLenV j) := ⟨fun {F H σ s ad d s'} k e Q q => by
  obtain ⟨c, e1, e⟩ := bind_some e
  split at e
  · rename_i ds
    cases e
    obtain ⟨v, k1, vw⟩ := k.view e1
    obtain ⟨a, xs, rfl, g1, g2⟩ := vw_lst k.ex vw
    exact ⟨_, k1, .inl ⟨a, xs, rfl, .inl (.inl g1), by rw [g2.length]; exact q _ _ _ (.refl k) (.int _)⟩⟩
  · cases e⟩
/-! ### lent for a while -/
def tLk (i : Nat) (te : TE) : TE := fun σ H Q => ∃ d u, σ[i]? = some (some (.ref d)) ∧ H d = some u ∧ Mut (some u) ∧ ∀ od, te σ (upd H d (.frz od u)) fun v H1 => ∃ od', H1 d = some (.frz od' u) ∧ Q v (upd H1 d u)
theorem pe_lk {X : Cx} {i : Nat} {e : Expr} {te : TE} (h : PE X e te) : PE X e (tLk i te) := by
  refine ⟨fun pins s σ H Q I hw => ?_⟩
  obtain ⟨d, u, _, hd, mu, hw⟩ := hw
  have hn := I.nofrz hd mu
  obtain ⟨od, I1⟩ := I.lock hd mu
  refine thn (h.run pins s σ _ _ I1 (hw od)) fun v s1 ⟨x, H1, I2, r, od', h1, q⟩ => ?_
  exact ⟨x, _, I2.unlock h1 hn, r, q⟩
def tLkS (i : Nat) (t : TS) : TS := fun D σ H => ∃ d u, σ[i]? = some (some (.ref d)) ∧ H d = some u ∧ Mut (some u) ∧ ∀ od, t { nx := fun σ1 H1 => ∃ od', H1 d = some (.frz od' u) ∧ D.nx σ1 (upd H1 d u), rt := fun v H1 => ∃ od', H1 d = some (.frz od' u) ∧ D.rt v (upd H1 d u), bk := fun σ1 H1 => ∃ od', H1 d = some (.frz od' u) ∧ D.bk σ1 (upd H1 d u), ct := fun σ1 H1 => ∃ od', H1 d = some (.frz od' u) ∧ D.ct σ1 (upd H1 d u) } σ (upd H d (.frz od u))
theorem ps_lk {X : Cx} {i : Nat} {st : Stmt} {t : TS} (h : PS X st t) : PS X st (tLkS i t) := by
  refine ⟨fun pins s σ H D I hw => ?_⟩
  obtain ⟨d, u, _, hd, mu, hw⟩ := hw
  have hn := I.nofrz hd mu
  obtain ⟨od, I1⟩ := I.lock hd mu
  refine thn (h.run pins s σ _ _ I1 (hw od)) fun f s1 q => ?_
  cases f with
  | next =>
    obtain ⟨σ1, H1, I2, od', h1, q⟩ := q
    exact ⟨σ1, _, I2.unlock h1 hn, q⟩
  | brk =>
    obtain ⟨σ1, H1, I2, od', h1, q⟩ := q
    exact ⟨σ1, _, I2.unlock h1 hn, q⟩
  | cont =>
    obtain ⟨σ1, H1, I2, od', h1, q⟩ := q
    exact ⟨σ1, _, I2.unlock h1 hn, q⟩
  | ret v =>
    obtain ⟨σ1, x, H1, I2, r, od', h1, q⟩ := q
    exact ⟨σ1, x, _, I2.unlock h1 hn, r, q⟩
/-- an own thing is lent, and given back -/
def lendS (s : S) (j : Nat) : Option S := match s[j]? with
  | some (.ow (.lst ds)) => some (s.set j (.rb (.lst ds)))
  | some (.ow (.dk ks vs)) => some (s.set j (.rb (.dk ks vs)))
  | some (.ow (.dt ks vs)) => some (s.set j (.rb (.dt ks vs)))
  | some (.pm (.lst ds)) => some (s.set j (.rb (.lst ds)))
  | some (.pm (.dk ks vs)) => some (s.set j (.rb (.dk ks vs)))
  | some (.pm (.dt ks vs)) => some (s.set j (.rb (.dt ks vs)))
  | _ => none
def isRb : Option Sl → Bool
  | some (.rb _) => true
  | _ => false
/-- nothing else is lent than what was -/
def rbOk (s s1 : S) (j : Nat) : Bool := (List.range s1.length).all fun i => i == j || (!isRb s1[i]? || isRb s[i]?)
def backL (s s1 : S) (j : Nat) : Option S := match s[j]?, s1[j]? with
  | some l, some (.rb _) => if rbOk s s1 j = true then some (s1.set j l) else none
  | _, _ => none
def mLk (j : Nat) (m : M) : M := fun s => (lendS s j).bind fun s1 => (m s1).bind fun p => (backL s p.2 j).map fun s3 => (p.1, s3)
section
variable {F H F2 H2 : Hp} {σ : L2.St} {s s1 s2 s3 : S} {ad : Nat → Addr} {j : Nat}
theorem lend_some (h : lendS s j = some s1) : ∃ l d, s[j]? = some l ∧ l.cell = some d ∧ s1 = s.set j (.rb d) ∧ ((∃ ds, d = .lst ds) ∨ d.isDict = true) := by
  unfold lendS at h
  split at h <;> first | (cases h; done) | (rename_i h0; cases h; first | exact ⟨_, _, h0, rfl, rfl, .inl ⟨_, rfl⟩⟩ | exact ⟨_, _, h0, rfl, rfl, .inr rfl⟩)
theorem cell_mut {o : Option HO} {d : D} (h : Cell cl F o d) (hd : (∃ ds, d = .lst ds) ∨ d.isDict = true) : ∃ u, o = some u ∧ Mut (some u) := by
  rcases hd with ⟨ds, rfl⟩ | hd
  · obtain ⟨xs, h1, _⟩ := h
    exact ⟨_, h1, trivial⟩
  · cases d with
    | dk ks vs =>
      obtain ⟨us, h1, _⟩ := h
      exact ⟨_, h1, trivial⟩
    | dt ks vs =>
      obtain ⟨us, h1, _⟩ := h
      exact ⟨_, h1, trivial⟩
    | _ => cases hd
theorem ok_lend {l : Sl} {d : D} {u : HO} {od : Obj} (k : Ok cl F H σ s ad) (h0 : s[j]? = some l) (hc : l.cell = some d) (hu : H (ad j) = some u) : Ok cl F (upd H (ad j) (.frz od u)) σ (s.set j (.rb d)) ad := by
  obtain ⟨k1, k2, k3⟩ := k.ow j l d h0 hc
  refine ⟨Ex.mut k.ex k2, by rw [List.length_set]; exact k.len, fun i e g => ?_, fun i m e g c => ?_, fun i i2 m m2 e e2 g c g2 c2 ne => ?_, fun i e g => ?_⟩
  · rcases get_set g with ⟨rfl, z⟩ | ⟨z1, z2⟩
    · cases z
    · exact k.fz i e z2
  · rcases get_set g with ⟨rfl, z⟩ | ⟨z1, z2⟩
    · subst z
      cases c
    · obtain ⟨u1, u2, u3⟩ := k.ow i m e z2 c
      rw [upd_ne (k.ne i j m l e d z2 c h0 hc z1)]
      exact ⟨u1, u2, u3⟩
  · rcases get_set g with ⟨rfl, z⟩ | ⟨z1, z2⟩
    · subst z
      cases c
    · rcases get_set g2 with ⟨rfl, z⟩ | ⟨y1, y2⟩
      · subst z
        cases c2
      · exact k.ne i i2 m m2 e e2 z2 c y2 c2 ne
  · rcases get_set g with ⟨rfl, z⟩ | ⟨z1, z2⟩
    · cases z
      refine ⟨k1, k2, od, u, upd_same, ?_⟩
      rw [← hu]
      exact k3
    · obtain ⟨u1, u2, u3⟩ := k.rb i e z2
      rw [upd_ne (rb_own (o := none) u3 k3)]
      exact ⟨u1, u2, u3⟩
theorem po_lend {l : Sl} {d : D} {u : HO} {od : Obj} {e : D} (k : Ok cl F H σ s ad) (h0 : s[j]? = some l) (hc : l.cell = some d) (hu : H (ad j) = some u) (x : Po cl F (upd H (ad j) (.frz od u)) (s.set j (.rb d)) ad F2 H2 σ s2 ad) (h2 : s2[j]? = some (.rb e)) (hrb : rbOk s s2 j = true) :
    H2 (ad j) = some (.frz od u) ∧ Po cl F H s ad F2 (upd H2 (ad j) u) σ (s2.set j l) ad := by
  obtain ⟨k1, k2, k3⟩ := k.ow j l d h0 hc
  have kl := ok_lend (od := od) k h0 hc hu
  have lj := (List.getElem?_eq_some_iff.mp h0).1
  have lj2 := (List.getElem?_eq_some_iff.mp h2).1
  obtain ⟨y1, y2, y3⟩ := x.ok.rb j e h2
  have kp := (x.kp kl).2.2 (ad j) od u upd_same k2
  have ow1 : ∀ a, own (s.set j (.rb d)) ad a → own s ad a := fun a ⟨i, m, f, g, c, z⟩ => by
    rcases get_set g with ⟨rfl, z⟩ | ⟨z1, z2⟩
    · subst z
      cases c
    · exact ⟨i, m, f, z2, c, z⟩
  have nb : ∀ {i : Nat} {m : Sl} {f : D}, s2[i]? = some m → m.cell = some f → ad i ≠ ad j := fun {i m f} g c z => by
    obtain ⟨_, _, w3⟩ := x.ok.ow i m f g c
    rw [z, kp] at w3
    exact w3.nf rfl
  have ex3 : Ex F2 (upd H2 (ad j) u) := Ex.mut x.ok.ex y2
  have k4 : Cell cl F2 (some u) d := by
    rw [← hu]
    exact k3.mono x.step.ex
  refine ⟨kp, ⟨x.step.ex, ex3, fun a h => ?_⟩, ⟨ex3, by rw [List.length_set]; exact x.ok.len, fun i f g => ?_, fun i m f g c => ?_, fun i i2 m m2 f f2 g c g2 c2 ne => ?_, fun i f g => ?_⟩, fun a o => ?_, fun i f g => ⟨rfl, ?_⟩⟩
  · by_cases ha : a = ad j
    · subst ha
      rw [upd_same]
      exact ⟨fun z => (nomatch z), fun _ n => absurd ⟨j, l, d, h0, hc, rfl⟩ n⟩
    · rw [upd_ne ha]
      obtain ⟨w1, w2⟩ := x.step.2.2 a (by rw [upd_ne ha]; exact h)
      refine ⟨w1, fun f n => ?_⟩
      obtain ⟨w3, w4⟩ := w2 f fun o => n (ow1 a o)
      rw [upd_ne ha] at w3 w4
      exact ⟨w3, w4⟩
  · rcases get_set g with ⟨rfl, z⟩ | ⟨z1, z2⟩
    · subst z
      cases hc
    · exact x.ok.fz i f z2
  · rcases get_set g with ⟨rfl, z⟩ | ⟨z1, z2⟩
    · subst z
      rw [hc] at c
      cases c
      rw [upd_same]
      exact ⟨k1, y2, k4⟩
    · obtain ⟨w1, w2, w3⟩ := x.ok.ow i m f z2 c
      rw [upd_ne (nb z2 c)]
      exact ⟨w1, w2, w3⟩
  · rcases get_set g with ⟨rfl, z⟩ | ⟨z1, z2⟩
    · rcases get_set g2 with ⟨rfl, z'⟩ | ⟨y1, y2⟩
      · exact absurd rfl ne
      · exact (nb y2 c2).symm
    · rcases get_set g2 with ⟨rfl, z'⟩ | ⟨y1, y2⟩
      · exact nb z2 c
      · exact x.ok.ne i i2 m m2 f f2 z2 c y2 c2 ne
  · rcases get_set g with ⟨rfl, z⟩ | ⟨z1, z2⟩
    · subst z
      cases hc
    · obtain ⟨w1, w2, w3⟩ := x.ok.rb i f z2
      by_cases ha : ad i = ad j
      · exfalso
        have li := (List.getElem?_eq_some_iff.mp z2).1
        have b := List.all_eq_true.mp hrb i (List.mem_range.mpr li)
        rw [z2] at b
        cases q : s[i]? with
        | none =>
          rw [q] at b
          simp [isRb, z1] at b
        | some m =>
          cases m with
          | rb f0 =>
            obtain ⟨_, _, w4⟩ := k.rb i f0 q
            exact rb_own (o := none) w4 k3 ha
          | _ =>
            rw [q] at b
            simp [isRb, z1] at b
      · rw [upd_ne ha]
        exact ⟨w1, w2, w3⟩
  · obtain ⟨i, m, f, g, c, rfl⟩ := o
    rcases get_set g with ⟨rfl, z⟩ | ⟨z1, z2⟩
    · exact .inl ⟨i, l, d, h0, hc, rfl⟩
    · rcases x.sub _ ⟨i, m, f, z2, c, rfl⟩ with w | w
      · exact .inl (ow1 _ w)
      · refine .inr ?_
        have ne := nb z2 c
        rw [upd_ne ne] at w
        exact w
  · by_cases z : i = j
    · subst z
      rw [h0] at g
      cases g
      exact ⟨f, by rw [List.getElem?_set_self lj2]⟩
    · obtain ⟨_, f2, z2⟩ := x.pms i f (by rw [List.getElem?_set_ne (Ne.symm z)]; exact g)
      exact ⟨f2, by rw [List.getElem?_set_ne (Ne.symm z)]; exact z2⟩
end
instance i_lk {te : TE} {m : M} {j : Nat} [A : EvX cl te m] : EvX cl (tLk j te) (mLk j m) := ⟨fun {F H σ s ad d s'} k e Q q => by
  obtain ⟨s1, e0, e⟩ := bind_some e
  obtain ⟨⟨d1, s2⟩, e1, e⟩ := bind_some e
  obtain ⟨s3, e2, e⟩ := Option.map_eq_some_iff.mp e
  cases e
  obtain ⟨l, c, h0, hc, rfl, hd⟩ := lend_some e0
  obtain ⟨k1, k2, k3⟩ := k.ow j l c h0 hc
  obtain ⟨u, hu, mu⟩ := cell_mut k3 hd
  unfold backL at e2
  rw [h0] at e2
  dsimp only at e2
  split at e2
  · rename_i l' f el h2
    cases el
    obtain ⟨hrb, rfl⟩ := cond_some e2
    refine ⟨ad j, u, k1, hu, mu, fun od => A.run (ok_lend (od := od) k h0 hc hu) e1 _ fun v F2 H2 x h => ?_⟩
    obtain ⟨z1, z2⟩ := po_lend k h0 hc hu x h2 hrb
    exact ⟨od, z1, q v F2 _ z2 h⟩
  · cases e2⟩
/-! ### a thing lent is walked -/
def itV (j : Nat) : MA := fun s => match s[j]? with
  | some (.fz d) => d.itemsL.map fun ds => (ds, s)
  | some (.rb d) => (match d with
    | .lst ds => some (ds, s)
    | d => d.keysD.map fun ds => (ds, s))
  | _ => none
instance it_V {K : PySem.W.Frag} {j : Nat} : ItX cl (iAll K (tVar j)) (itV j) := ⟨fun {F H σ s ad ds s'} k e R q => by
  unfold itV at e
  split at e
  · rename_i d h0
    obtain ⟨ds1, e1, e⟩ := Option.map_eq_some_iff.mp e
    cases e
    refine (it_all (cl := cl) (K := K) (tl := tVar j) (m := mVar j)).run k ?_ R q
    unfold itL mVar
    rw [h0]
    show (d.itemsL.map fun ds => (ds, s)) = _
    rw [e1]
    rfl
  · rename_i d h0
    obtain ⟨k1, k2, od, u, k3, k4⟩ := k.rb j d h0
    have kk : ∀ {F2 H2 : Hp}, Kp F H F2 H2 → H2 (ad j) = some (.frz od u) := fun y => y.2.2 _ od u k3 k2
    cases d with
    | lst dl =>
      cases e
      obtain ⟨xs, h1, h2⟩ := k4
      cases h1
      have w := walk_list (K := K) (a := ad j) (xs := xs)
      rw [h2.length] at w
      refine .inl (.inl (.inl ⟨_, k1, ad j, rfl, ⟨xs, .inl (.inr ⟨od, k3⟩)⟩, q F H _ _ _ (.refl k) w (fun F2 H2 y1 => .inl (.inr ⟨od, kk y1⟩)) fun i d F2 H2 x H3 hd y1 y => ?_⟩))
      obtain ⟨rfl, hx⟩ := y
      obtain ⟨d', hd', hx'⟩ := h2.getV hx
      rw [hd] at hd'
      cases hd'
      exact ⟨F2, .refl y1.2.1, hx'.mono y1.1⟩
    | dk ks vs =>
      cases e
      obtain ⟨us, h1, l, h2⟩ := k4
      cases h1
      have w := walk_keys (d := ad j) (o := od) (kvs := ks.zip us)
      have ln : (ks.map kD).length = (ks.zip us).length := by rw [zip_len l.1, List.length_map]
      rw [← ln] at w
      refine .inr ⟨_, k1, ad j, od, rfl, .inl ⟨_, k3, q F H _ _ _ (.refl k) w (fun F2 H2 y1 => kk y1) fun i d F2 H2 x H3 hd y1 y => ?_⟩⟩
      obtain ⟨rfl, kk', vv, hk, rfl⟩ := y
      have hk2 := zip_at hk
      rw [List.getElem?_map, hk2] at hd
      cases hd
      exact ⟨F2, .refl y1.2.1, kD_dx (List.all_eq_true.mp l.2 _ (List.mem_of_getElem? hk2))⟩
    | dt ks vs =>
      cases e
      obtain ⟨us, h1, l, h2⟩ := k4
      cases h1
      have w := walk_keysT (d := ad j) (o := od) (kvs := ks.zip us)
      have ln : (ks.map fun l => D.tup (l.map kD)).length = (ks.zip us).length := by rw [zip_len l.1, List.length_map]
      rw [← ln] at w
      refine .inr ⟨_, k1, ad j, od, rfl, .inr ⟨_, k3, q F H _ _ _ (.refl k) w (fun F2 H2 y1 => kk y1) fun i d F2 H2 x H3 hd y1 y => ?_⟩⟩
      obtain ⟨rfl, kk', vv, b, hk, rfl, hb⟩ := y
      have hk2 := zip_at hk
      rw [List.getElem?_map, hk2] at hd
      cases hd
      obtain ⟨F3, st, hF⟩ := tup_known y1.2.1 hb
      exact ⟨F3, st, .tup hF (kDs_dx (List.all_eq_true.mp l.2 _ (List.mem_of_getElem? hk2)))⟩
    | _ => cases e
  · cases e⟩
end Fr

set_option Elab.async false
set_option linter.all false
set_option maxRecDepth 100000
set_option maxHeartbeats 2000000
namespace Fr
open PySem PySem.Spec PyProof.Rows L2 Evl RZ
variable {cl : PySem.Str → Addr}
/-! ### objects: fields -/
def lookO (ns : List PySem.Str) (ds : List D) (f : PySem.Str) : Option D := valZ ns ds f
/-- the classes cs have no attribute f of their own -/
class Flds (K : PySem.W.Frag) (cl : PySem.Str → Addr) (f : PySem.Str) (cs : List PySem.Str) : Prop where
  cls : ∀ c ∈ cs, Cls K (cl c) ∧ NoAttr K (cl c) f
theorem lookup_val {f : PySem.Str} : ∀ {ns : List PySem.Str} {us : List V}, (ns.zip us).lookup f = valV (ns.zip us) f
  | [], us => by simp [valV]
  | n :: ns, [] => by simp [valV]
  | n :: ns, u :: us => by
    by_cases e : n = f
    · subst e
      simp [valV, List.lookup]
    · have e2 : (f == n) = false := by
        rw [beq_eq_false_iff_ne]
        exact fun z => e z.symm
      have ih := lookup_val (f := f) (ns := ns) (us := us)
      simp only [List.zip_cons_cons, List.lookup, e2]
      rw [ih]
      simp [valV, e]
theorem look_dx {F : Hp} {ns : List PySem.Str} {us : List V} {ds : List D} {f : PySem.Str} {d : D} (h : DxAll cl F us ds) (e : lookO ns ds f = some d) : ∃ v, (ns.zip us).lookup f = some v ∧ Dx cl F v d := by
  obtain ⟨v, h1, h2⟩ := (val_dx (k := f) (ks := ns) h).1 d e
  exact ⟨v, by rw [lookup_val]; exact h1, h2⟩
def fldD (f : PySem.Str) (cs : List PySem.Str) : D → Option D
  | .obj c ns ds => if cs.contains c = true then lookO ns ds f else none
  | _ => none
def mFld (f : PySem.Str) (cs : List PySem.Str) (a : M) : M := fun s => (a s).bind fun p => (fldD f cs p.1).map fun d => (d, p.2)
theorem vw_obj {F H : Hp} {v : V} {c : PySem.Str} {ns : List PySem.Str} {ds : List D} (e : Ex F H) (h : Dx cl F v (.obj c ns ds) ∨ ∃ a, v = .ref a ∧ Cell cl F (H a) (.obj c ns ds)) : ∃ a dx us, v = .ref a ∧ H a = some (.ins (cl c) dx (ns.zip us)) ∧ ns.length = us.length ∧ DxAll cl F us ds := by
  rcases h with h | ⟨a, rfl, dx, us, h1, h2, h3⟩
  · cases h with
    | obj h1 h2 h3 => exact ⟨_, _, _, rfl, e _ _ h1, h2, h3⟩
  · exact ⟨a, dx, us, rfl, h1, h2, h3⟩
instance i_fld {K : PySem.W.Frag} {f : PySem.Str} {cs : List PySem.Str} {ta : TE} {ma : M} [A : EvX cl ta ma] [C : Flds K cl f cs] : EvX cl (tFld K ta f) (mFld f cs ma) := ⟨fun {F H σ s ad d s'} k e Q q => by
  obtain ⟨⟨d0, s1⟩, e1, e⟩ := bind_some e
  obtain ⟨d1, e2, e⟩ := Option.map_eq_some_iff.mp e
  cases e
  refine A.run k e1 _ fun v F1 H1 x1 h1 => ?_
  cases d0 with
  | obj c ns ds =>
    dsimp only [fldD] at e2
    by_cases hc : cs.contains c = true
    · rw [if_pos hc] at e2
      obtain ⟨a, dx, us, rfl, g1, g2, g3⟩ := vw_obj x1.ok.ex (.inl h1)
      obtain ⟨v, w1, w2⟩ := look_dx g3 e2
      obtain ⟨c1, c2⟩ := C.cls c (by simpa using hc)
      exact ⟨a, cl c, dx, _, v, rfl, g1, c1, c2, w1, q _ _ _ x1 w2⟩
    · rw [if_neg hc] at e2
      cases e2
  | _ => cases e2⟩
/-- a field of an own object in a slot -/
def mFldV (f : PySem.Str) (cs : List PySem.Str) (j : Nat) : M := fun s => (cellAt s j).bind fun c => (fldD f cs c).map fun d => (d, s)
instance i_fldV {K : PySem.W.Frag} {f : PySem.Str} {cs : List PySem.Str} {j : Nat} [C : Flds K cl f cs] : EvX cl (tFld K (tVar j) f) (mFldV f cs j) := ⟨fun {F H σ s ad d s'} k e Q q => by
  obtain ⟨c0, e1, e⟩ := bind_some e
  obtain ⟨d1, e2, e⟩ := Option.map_eq_some_iff.mp e
  cases e
  obtain ⟨l, h0, hc0⟩ := cellAt_some e1
  obtain ⟨k1, k2, k3⟩ := k.ow j l _ h0 hc0
  cases c0 with
  | obj c ns ds =>
    dsimp only [fldD] at e2
    by_cases hc : cs.contains c = true
    · rw [if_pos hc] at e2
      obtain ⟨dx, us, g1, g2, g3⟩ := k3
      obtain ⟨v, w1, w2⟩ := look_dx g3 e2
      obtain ⟨c1, c2⟩ := C.cls c (by simpa using hc)
      exact ⟨_, k1, ad j, cl c, dx, _, v, rfl, g1, c1, c2, w1, q _ _ _ (.refl k) w2⟩
    · rw [if_neg hc] at e2
      cases e2
  | _ => cases e2⟩
/-- self.f = e, self own -/
def putFZ {α : Type} (f : PySem.Str) (y : α) : List PySem.Str → List α → List PySem.Str × List α
  | n :: ns, u :: us => if n = f then (n :: ns, y :: us) else (n :: (putFZ f y ns us).1, u :: (putFZ f y ns us).2)
  | _, _ => ([f], [y])
theorem putF_zip {f : PySem.Str} {y : V} : ∀ {ns : List PySem.Str} {us : List V}, ns.length = us.length → putF f y (ns.zip us) = (putFZ f y ns us).1.zip (putFZ f y ns us).2 ∧ (putFZ f y ns us).1.length = (putFZ f y ns us).2.length
  | [], [], _ => ⟨rfl, rfl⟩
  | [], _ :: _, h => nomatch h
  | _ :: _, [], h => nomatch h
  | n :: ns, u :: us, h => by
    obtain ⟨h1, h2⟩ := putF_zip (f := f) (y := y) (ns := ns) (us := us) (by simpa using h)
    by_cases e : n = f
    · simp [putF, putFZ, e]
      simpa using h
    · simp [putF, putFZ, e, h1, h2]
theorem putF_dx {F : Hp} {f : PySem.Str} {y : V} {d : D} (hy : Dx cl F y d) : ∀ {ns : List PySem.Str} {us : List V} {ds : List D}, DxAll cl F us ds → (putFZ f y ns us).1 = (putFZ f d ns ds).1 ∧ DxAll cl F (putFZ f y ns us).2 (putFZ f d ns ds).2
  | [], us, ds, h => by
    simp only [putFZ]
    exact ⟨trivial, .cons hy .nil⟩
  | n :: ns, _, _, .nil => by
    simp only [putFZ]
    exact ⟨trivial, .cons hy .nil⟩
  | n :: ns, _, _, .cons h1 h2 => by
    obtain ⟨z1, z2⟩ := putF_dx (f := f) hy (ns := ns) h2
    by_cases e : n = f
    · simp only [putFZ, if_pos e]
      exact ⟨trivial, .cons hy h2⟩
    · simp only [putFZ, if_neg e, z1]
      exact ⟨trivial, .cons h1 z2⟩
def setO (f : PySem.Str) (cs : List PySem.Str) (y : D) : D → Option D
  | .obj c ns ds => if cs.contains c = true ∧ ns.length < 1000 then some (.obj c (putFZ f y ns ds).1 (putFZ f y ns ds).2) else none
  | _ => none
def mSetF (j : Nat) (f : PySem.Str) (cs : List PySem.Str) (a : M) : MS := fun s => (a s).bind fun p => (cellAt p.2 j).bind fun c => (setO f cs p.1 c).map fun c2 => (.nx, setCell p.2 j c2)
instance s_setF {K : PySem.W.Frag} {f : PySem.Str} {cs : List PySem.Str} {j : Nat} {tv : TE} {mv : M} [A : EvX cl tv mv] [C : Flds K cl f cs] : EvS cl (sFld K (tVar j) tv f) (mSetF j f cs mv) := ⟨fun {F H σ s ad o s'} k e E q => by
  obtain ⟨⟨d, s1⟩, e1, e⟩ := bind_some e
  obtain ⟨c0, h0, e⟩ := bind_some e
  obtain ⟨c2, e2, e⟩ := Option.map_eq_some_iff.mp e
  cases e
  obtain ⟨l, hl, hc⟩ := cellAt_some h0
  refine A.run k e1 _ fun v F1 H1 x1 v1 => ?_
  obtain ⟨k1, k2, k3⟩ := x1.ok.ow j l _ hl hc
  cases c0 with
  | obj c ns ds =>
    obtain ⟨⟨h1, h2⟩, rfl⟩ := cond_some e2
    obtain ⟨dx, us, g1, g2, g3⟩ := k3
    obtain ⟨c1, c2⟩ := C.cls c (by simpa using h1)
    refine ⟨_, k1, ad j, cl c, dx, ns.zip us, rfl, g1, c1, c2, by rw [zip_len g2]; exact h2, ?_⟩
    obtain ⟨z1, z2⟩ := putF_zip (f := f) (y := v) g2
    obtain ⟨z3, z4⟩ := putF_dx (f := f) (ns := ns) v1 g3
    have w := x1.ok.write hl hc (o := .ins (cl c) dx (putF f v (ns.zip us))) (e := .obj c (putFZ f d ns ds).1 (putFZ f d ns ds).2) ⟨dx, _, by rw [z1, z3], by rw [← z3]; exact z2, z4⟩
    rw [setCell_eq hl] at q
    exact q _ _ _ _ (x1.trans w)
  | _ => cases e2⟩
/-! ### properties and methods of objects that are data -/
def D.isObj (c : PySem.Str) : D → Bool
  | .obj c' _ _ => c' == c
  | _ => false
def mProp (c : PySem.Str) (Φ : S → Option (D × S)) (a : M) : M := fun s => (a s).bind fun p => if p.1.isObj c = true then (Φ [.fz p.1]).map fun r => (r.1, p.2) else none
theorem ok_one {F H : Hp} {v : V} {d : D} (e : Ex F H) (h : Dx cl F v d) : Ok cl F H [some v] [.fz d] (fun _ => 0) := by
  have z : ∀ {i : Nat} {l : Sl}, [Sl.fz d][i]? = some l → i = 0 ∧ l = .fz d := fun {i l} g => by
    cases i with
    | zero => exact ⟨rfl, by simpa using g.symm⟩
    | succ i => simp at g
  refine ⟨e, rfl, fun i f g => ?_, fun i l f g c => ?_, fun i j l m f f2 g c => ?_, fun i f g => ?_⟩
  · obtain ⟨rfl, z2⟩ := z g
    cases z2
    exact ⟨v, rfl, h⟩
  · obtain ⟨rfl, z2⟩ := z g
    subst z2
    cases c
  · obtain ⟨rfl, z2⟩ := z g
    subst z2
    cases c
  · obtain ⟨rfl, z2⟩ := z g
    cases z2
theorem own_one {d : D} {ad : Nat → Addr} {a : Addr} : ¬ own [Sl.fz d] ad a := fun ⟨i, l, f, g, c, _⟩ => by
  cases i with
  | zero =>
    simp at g
    subst g
    cases c
  | succ i => simp at g
theorem isObj_eq {c : PySem.Str} {d : D} (h : d.isObj c = true) : ∃ ns ds, d = .obj c ns ds := by
  cases d with
  | obj c' ns ds =>
    have e : c' = c := by simpa [D.isObj] using h
    subst e
    exact ⟨ns, ds, rfl⟩
  | _ => cases h
instance i_prop {c : PySem.Str} {Φ : S → Option (D × S)} {E : XK} {ta : TE} {ma : M} [A : EvX cl ta ma] : EvX cl (tProp (cl c) (spG cl 1 Φ) [] E ta) (mProp c Φ ma) := ⟨fun {F H σ s ad d s'} k e Q q => by
  obtain ⟨⟨d0, s1⟩, e1, e⟩ := bind_some e
  dsimp only at e
  by_cases hc : d0.isObj c = true
  · rw [if_pos hc] at e
    obtain ⟨⟨d1, t1⟩, e2, e⟩ := Option.map_eq_some_iff.mp e
    cases e
    refine A.run k e1 _ fun v F1 H1 x1 h1 => ?_
    obtain ⟨ns, ds, rfl⟩ := isObj_eq hc
    obtain ⟨a, dx, us, rfl, g1, g2, g3⟩ := vw_obj x1.ok.ex (.inl h1)
    refine ⟨a, dx, _, rfl, g1, rfl, F1, _, _, d1, t1, ok_one x1.ok.ex h1, e2, fun v F2 H2 x2 h2 => ?_⟩
    have st : Step (fun _ => False) F1 H1 F2 H2 := x2.step.mono fun a o _ _ => (own_one o).elim
    exact q v F2 H2 (x1.trans (.step0 x1.ok st)) h2
  · rw [if_neg hc] at e
    cases e⟩
/-- o.m(..), o a datum -/
def mMeth (c m : PySem.Str) (np : Nat) (Φ : S → Option (D × S)) (a : M) (g : MG) : M := fun s => (a s).bind fun p => match p.1 with
  | .obj c' ns ds => if c' = c ∧ ns.contains m = false then (g p.2).bind fun r => callG np Φ (.d (.obj c' ns ds) :: r.1) r.2 else none
  | _ => none
theorem lookup_no {m : PySem.Str} : ∀ {ns : List PySem.Str} {us : List V}, ns.contains m = false → (ns.zip us).lookup m = none
  | [], us, _ => by simp
  | n :: ns, [], _ => by simp
  | n :: ns, u :: us, h => by
    simp only [List.contains_cons, Bool.or_eq_false_iff] at h
    simp only [List.zip_cons_cons, List.lookup, h.1]
    exact lookup_no h.2
theorem callG_run {np : Nat} {Φ : S → Option (D × S)} {F H : Hp} {σ : L2.St} {s : S} {ad : Nat → Addr} {vs : List V} {as : List Ag} {d : D} {s' : S} {E : XK} {Q : VK} (k : Ok cl F H σ s ad) (h : AgAll cl F σ vs as) (e : callG np Φ as s = some (d, s')) (q : ∀ v F' H', Po cl F H s ad F' H' σ s' ad → Dx cl F' v d → Q v H') : spG cl np Φ vs H Q E := by
  dsimp only [callG] at e
  by_cases hl : as.length = np
  · rw [if_pos hl] at e
    by_cases hn : nodupN (cellsA s as) = true
    · rw [if_pos hn] at e
      obtain ⟨t0, e2, e⟩ := bind_some e
      obtain ⟨⟨d1, t1⟩, e3, e⟩ := Option.map_eq_some_iff.mp e
      cases e
      exact ⟨by rw [h.length]; exact hl, F, t0, adA as ad, d1, t1, ok_args k h hn e2, e3, fun v F2 H2 x2 h2 => q v F2 H2 (po_args k h hn e2 x2) h2⟩
    · rw [if_neg hn] at e
      cases e
  · rw [if_neg hl] at e
    cases e
instance i_meth {c m : PySem.Str} {np : Nat} {Φ : S → Option (D × S)} {E : XK} {ta : TE} {ma : M} {t : TA} {g : MG} [A : EvX cl ta ma] [B : EvG cl t g] : EvX cl (tMeth (cl c) m (spG cl np Φ) [] E ta t) (mMeth c m np Φ ma g) := ⟨fun {F H σ s ad d s'} k e Q q => by
  obtain ⟨⟨d0, s1⟩, e1, e⟩ := bind_some e
  dsimp only at e
  cases d0 with
  | obj c' ns ds =>
    dsimp only at e
    by_cases hc : c' = c ∧ ns.contains m = false
    · have e9 := e
      rw [if_pos hc] at e9
      clear e
      obtain ⟨rfl, hm⟩ := hc
      obtain ⟨⟨as, s2⟩, e2, e8⟩ := bind_some e9
      refine A.run k e1 _ fun v F1 H1 x1 h1 => ?_
      obtain ⟨a, dx, us, rfl, g1, g2, g3⟩ := vw_obj x1.ok.ex (.inl h1)
      refine ⟨a, dx, _, rfl, g1, lookup_no hm, B.run x1.ok e2 _ fun vs F2 H2 x2 h2 => ?_⟩
      rw [List.append_nil]
      exact callG_run x2.ok (.d (h1.mono x2.step.ex) h2) e8 fun v F3 H3 x3 h3 => q v F3 H3 ((x1.trans x2).trans x3) h3
    · rw [if_neg hc] at e
      cases e
  | _ => cases e⟩
/-- o.m(..), o an own object in a slot -/
def mMethV (c m : PySem.Str) (np : Nat) (Φ : S → Option (D × S)) (j : Nat) (g : MG) : M := fun s => match cellAt s j with
  | some (.obj c' ns ds) => if c' = c ∧ ns.contains m = false then (g s).bind fun r => (cellAt r.2 j).bind fun _ => callG np Φ (.v j :: r.1) r.2 else none
  | _ => none
instance i_methV {c m : PySem.Str} {np j : Nat} {Φ : S → Option (D × S)} {E : XK} {t : TA} {g : MG} [B : EvG cl t g] : EvX cl (tMeth (cl c) m (spG cl np Φ) [] E (tVar j) t) (mMethV c m np Φ j g) := ⟨fun {F H σ s ad d s'} k e Q q => by
  unfold mMethV at e
  split at e
  · rename_i c' ns ds h0
    by_cases hc : c' = c ∧ ns.contains m = false
    · have e9 := e
      rw [if_pos hc] at e9
      clear e
      obtain ⟨rfl, hm⟩ := hc
      obtain ⟨⟨as, s2⟩, e2, e8⟩ := bind_some e9
      obtain ⟨c2, e3, e8⟩ := bind_some e8
      obtain ⟨l, hl, hcl⟩ := cellAt_some h0
      obtain ⟨k1, k2, dx, us, g1, g2, g3⟩ := k.ow j l _ hl hcl
      refine ⟨_, k1, ad j, dx, _, rfl, g1, lookup_no hm, B.run k e2 _ fun vs F2 H2 x2 h2 => ?_⟩
      rw [List.append_nil]
      exact callG_run x2.ok (.v k1 h2) e8 fun v F3 H3 x3 h3 => q v F3 H3 (x2.trans x3) h3
    · rw [if_neg hc] at e
      cases e
  · cases e⟩
/-- one way or another -/
def tOrE (t u : TE) : TE := fun σ H Q => t σ H Q ∨ u σ H Q
theorem pe_or2 {X : Cx} {e : Expr} {t u : TE} (h : PE X e t) (h2 : PE X e u) : PE X e (tOrE t u) := ⟨fun pins s σ H Q I hw => by
  rcases hw with hw | hw
  · exact h.run pins s σ H Q I hw
  · exact h2.run pins s σ H Q I hw⟩
def mOrE (a b : M) : M := fun s => match a s with
  | some r => some r
  | none => b s
instance i_orE {t u : TE} {a b : M} [A : EvX cl t a] [B : EvX cl u b] : EvX cl (tOrE t u) (mOrE a b) := ⟨fun {F H σ s ad d s'} k e Q q => by
  unfold mOrE at e
  split at e
  · rename_i r hr
    cases e
    exact .inl (A.run k hr Q q)
  · exact .inr (B.run k e Q q)⟩
end Fr

set_option Elab.async false
set_option linter.all false
set_option maxRecDepth 100000
set_option maxHeartbeats 2000000
namespace Fr
open PySem PySem.Spec PyProof.Rows L2 Evl RZ
variable {cl : PySem.Str → Addr}
/-! ### defaults, keywords -/
class Dv (dvs : List V) (dfl : List D) : Prop where
  all : ∀ (cl : PySem.Str → Addr) (F : Hp), DxAll cl F dvs dfl
instance dv_nil : Dv [] [] := ⟨fun _ _ => .nil⟩
instance dv_non {r : List V} {r' : List D} [A : Dv r r'] : Dv (.non :: r) (.non :: r') := ⟨fun cl F => .cons .non (A.all cl F)⟩
instance dv_bl {b : Bool} {r : List V} {r' : List D} [A : Dv r r'] : Dv (.bl b :: r) (.bl b :: r') := ⟨fun cl F => .cons (.bl b) (A.all cl F)⟩
instance dv_int {i : Int} {r : List V} {r' : List D} [A : Dv r r'] : Dv (.int i :: r) (.int i :: r') := ⟨fun cl F => .cons (.int i) (A.all cl F)⟩
theorem ag_dv {F : Hp} {σ : L2.St} : ∀ {vs : List V} {ds : List D}, DxAll cl F vs ds → AgAll cl F σ vs (ds.map Ag.d)
  | _, _, .nil => .nil
  | _, _, .cons h a => .d h (ag_dv a)
theorem ag_app {F : Hp} {σ : L2.St} : ∀ {vs us : List V} {as bs : List Ag}, AgAll cl F σ vs as → AgAll cl F σ us bs → AgAll cl F σ (vs ++ us) (as ++ bs)
  | _, _, _, _, .nil, h => h
  | _, _, _, _, .d x a, h => .d x (ag_app a h)
  | _, _, _, _, .v x a, h => .v x (ag_app a h)
theorem ag_get {F : Hp} {σ : L2.St} : ∀ {vs : List V} {as : List Ag} {i : Nat}, AgAll cl F σ vs as → (vs[i]? = none ∧ as[i]? = none) ∨ ∃ v a, vs[i]? = some v ∧ as[i]? = some a ∧ ∀ {us : List V} {bs : List Ag}, AgAll cl F σ us bs → AgAll cl F σ (v :: us) (a :: bs)
  | _, _, i, .nil => .inl ⟨by simp, by simp⟩
  | _, _, 0, .d x r => .inr ⟨_, _, rfl, rfl, fun h => .d x h⟩
  | _, _, 0, .v x r => .inr ⟨_, _, rfl, rfl, fun h => .v x h⟩
  | _, _, i + 1, .d x r => by simpa using ag_get (i := i) r
  | _, _, i + 1, .v x r => by simpa using ag_get (i := i) r
theorem ag_pick {F : Hp} {σ : L2.St} {vs : List V} {as : List Ag} (h : AgAll cl F σ vs as) : ∀ is : List Nat, AgAll cl F σ (pick is vs) (pick is as)
  | [] => .nil
  | i :: is => by
    unfold pick
    rw [List.filterMap_cons, List.filterMap_cons]
    rcases ag_get (i := i) h with ⟨h1, h2⟩ | ⟨v, a, h1, h2, h3⟩
    · rw [h1, h2]
      exact ag_pick h is
    · rw [h1, h2]
      exact h3 (ag_pick h is)
def mCallD (np : Nat) (Φ : S → Option (D × S)) (dfl : List D) (a : MG) : M := fun s => (a s).bind fun p => callG np Φ (p.1 ++ dfl.map Ag.d) p.2
instance i_callD {np : Nat} {Φ : S → Option (D × S)} {dvs : List V} {dfl : List D} {E : XK} {t : TA} {mt : MG} [A : EvG cl t mt] [B : Dv dvs dfl] : EvX cl (tCall (spG cl np Φ) dvs E t) (mCallD np Φ dfl mt) := ⟨fun {F H σ s ad d s'} k e Q q => by
  obtain ⟨⟨as, s1⟩, e1, e⟩ := bind_some e
  exact A.run k e1 _ fun vs F1 H1 x1 h1 => callG_run x1.ok (ag_app h1 (ag_dv (B.all cl F1))) e fun v F2 H2 x2 h2 => q v F2 H2 (x1.trans x2) h2⟩
/-- the values in the parameters' order: those by position, those by name, the defaults -/
def ordV (is : List Nat) (dvs : List V) : List V → List V → List V := fun vs zs => pick is (vs ++ (zs ++ dvs))
def mCallK (np n m : Nat) (Φ : S → Option (D × S)) (is : List Nat) (dfl : List D) (a b : MG) : M := fun s => (a s).bind fun p => (b p.2).bind fun r => if p.1.length = n ∧ r.1.length = m then callG np Φ (pick is (p.1 ++ (r.1 ++ dfl.map Ag.d))) r.2 else none
instance i_callK {np n m : Nat} {Φ : S → Option (D × S)} {is : List Nat} {dvs : List V} {dfl : List D} {E : XK} {t tk : TA} {mt mk : MG} [A : EvG cl t mt] [K : EvG cl tk mk] [B : Dv dvs dfl] : EvX cl (tCallN n m (spG cl np Φ) (ordV is dvs) E t tk) (mCallK np n m Φ is dfl mt mk) := ⟨fun {F H σ s ad d s'} k e Q q => by
  obtain ⟨⟨as, s1⟩, e1, e⟩ := bind_some e
  obtain ⟨⟨bs, s2⟩, e2, e⟩ := bind_some e
  dsimp only at e
  by_cases hl : as.length = n ∧ bs.length = m
  · rw [if_pos hl] at e
    refine A.run k e1 _ fun vs F1 H1 x1 h1 => K.run x1.ok e2 _ fun zs F2 H2 x2 h2 => ⟨by rw [h1.length]; exact hl.1, by rw [h2.length]; exact hl.2, ?_⟩
    exact callG_run x2.ok (ag_pick (ag_app (h1.mono x2.step.ex) (ag_app h2 (ag_dv (B.all cl F2)))) is) e fun v F3 H3 x3 h3 => q v F3 H3 ((x1.trans x2).trans x3) h3
  · rw [if_neg hl] at e
    cases e⟩
/-! ### a new object -/
section
variable {F H F2 H2 : Hp} {σ : L2.St} {s s2 : S} {ad : Nat → Addr} {x : Addr} {d d2 : D} {l : Sl}
def adX (ad : Nat → Addr) (n : Nat) (x : Addr) : Nat → Addr := fun i => if i = n then x else ad i
theorem app_at {α : Type} {s : List α} {a b : α} {i : Nat} (h : (s ++ [a])[i]? = some b) : (i < s.length ∧ s[i]? = some b) ∨ (i = s.length ∧ b = a) := by
  rcases get_app h with z | ⟨z1, z2⟩
  · exact .inl ⟨(List.getElem?_eq_some_iff.mp z).1, z⟩
  · have e : i - s.length = 0 := by
      have := (List.getElem?_eq_some_iff.mp z2).1
      simp at this
      omega
    rw [e] at z2
    exact .inr ⟨by omega, by simpa using z2.symm⟩
theorem ok_ext (k : Ok cl F H σ s ad) (hF : F x = none) (hn : ∀ a, own s ad a → a ≠ x) (hc : Cell cl F (H x) d) : Ok cl F H (σ ++ [some (.ref x)]) (s ++ [.ow d]) (adX ad s.length x) := by
  have sg : ∀ {i : Nat} {v : V}, σ[i]? = some (some v) → (σ ++ [some (V.ref x)])[i]? = some (some v) := fun {i v} h => by
    rw [List.getElem?_append_left (List.getElem?_eq_some_iff.mp h).1]
    exact h
  have ax : ∀ {i : Nat}, i < s.length → adX ad s.length x i = ad i := fun {i} h => by
    unfold adX
    rw [if_neg (by omega)]
  have al : adX ad s.length x s.length = x := by
    unfold adX
    rw [if_pos rfl]
  refine ⟨k.ex, by rw [List.length_append, List.length_append, k.len]; rfl, fun i f g => ?_, fun i m f g c => ?_, fun i j m m2 f f2 g c g2 c2 ne => ?_, fun i f g => ?_⟩
  · rcases app_at g with ⟨z1, z2⟩ | ⟨_, z⟩
    · obtain ⟨v, h1, h2⟩ := k.fz i f z2
      exact ⟨v, sg h1, h2⟩
    · cases z
  · rcases app_at g with ⟨z1, z2⟩ | ⟨rfl, rfl⟩
    · rw [ax z1]
      obtain ⟨h1, h2, h3⟩ := k.ow i m f z2 c
      exact ⟨sg h1, h2, h3⟩
    · cases c
      rw [al]
      refine ⟨?_, hF, hc⟩
      rw [← k.len, List.getElem?_append_right (Nat.le_refl _)]
      simp
  · rcases app_at g with ⟨z1, z2⟩ | ⟨rfl, rfl⟩
    · rcases app_at g2 with ⟨y1, y2⟩ | ⟨rfl, rfl⟩
      · rw [ax z1, ax y1]
        exact k.ne i j m m2 f f2 z2 c y2 c2 ne
      · rw [ax z1, al]
        exact hn _ ⟨i, m, f, z2, c, rfl⟩
    · rcases app_at g2 with ⟨y1, y2⟩ | ⟨rfl, rfl⟩
      · rw [ax y1, al]
        exact (hn _ ⟨j, m2, f2, y2, c2, rfl⟩).symm
      · exact absurd rfl ne
  · rcases app_at g with ⟨z1, z2⟩ | ⟨_, z⟩
    · rw [ax z1]
      obtain ⟨h1, h2, h3⟩ := k.rb i f z2
      exact ⟨sg h1, h2, h3⟩
    · cases z
theorem ok_cut (hl : s2.length = s.length) (ls : σ.length = s.length) (k : Ok cl F H (σ ++ [some (.ref x)]) (s2 ++ [l]) (adX ad s.length x)) : Ok cl F H σ s2 ad := by
  have up : ∀ {i : Nat} {m : Sl}, s2[i]? = some m → (s2 ++ [l])[i]? = some m ∧ adX ad s.length x i = ad i ∧ i < s.length := fun {i m} h => by
    have hi := (List.getElem?_eq_some_iff.mp h).1
    refine ⟨by rw [List.getElem?_append_left hi]; exact h, ?_, by omega⟩
    unfold adX
    rw [if_neg (by omega)]
  have sg : ∀ {i : Nat} {v : Option V}, i < s.length → (σ ++ [some (V.ref x)])[i]? = some v → σ[i]? = some v := fun {i v} hi h => by
    rw [List.getElem?_append_left (by omega)] at h
    exact h
  refine ⟨k.ex, by rw [hl, ls], fun i f g => ?_, fun i m f g c => ?_, fun i j m m2 f f2 g c g2 c2 ne => ?_, fun i f g => ?_⟩
  · obtain ⟨u1, u2, u3⟩ := up g
    obtain ⟨v, h1, h2⟩ := k.fz i f u1
    exact ⟨v, sg u3 h1, h2⟩
  · obtain ⟨u1, u2, u3⟩ := up g
    obtain ⟨h1, h2, h3⟩ := k.ow i m f u1 c
    rw [u2] at h1 h2 h3
    exact ⟨sg u3 h1, h2, h3⟩
  · obtain ⟨u1, u2, u3⟩ := up g
    obtain ⟨w1, w2, w3⟩ := up g2
    have z := k.ne i j m m2 f f2 u1 c w1 c2 ne
    rw [u2, w2] at z
    exact z
  · obtain ⟨u1, u2, u3⟩ := up g
    obtain ⟨h1, h2, h3⟩ := k.rb i f u1
    rw [u2] at h1 h2 h3
    exact ⟨sg u3 h1, h2, h3⟩
theorem own_ext {a : Addr} (h : own (s ++ [l]) (adX ad s.length x) a) : own s ad a ∨ a = x := by
  obtain ⟨i, m, f, g, c, z⟩ := h
  rcases app_at g with ⟨z1, z2⟩ | ⟨rfl, rfl⟩
  · unfold adX at z
    rw [if_neg (by omega)] at z
    exact .inl ⟨i, m, f, z2, c, z⟩
  · unfold adX at z
    rw [if_pos rfl] at z
    exact .inr z.symm
/-- back from the slots with the new object -/
theorem po_cut {H1 : Hp} (k1 : Ok cl F H1 σ s ad) (hx : H1 x = none) (st : Step (fun _ => False) F H1 F H) (hl : s2.length = s.length) (y : Po cl F H (s ++ [.ow d]) (adX ad s.length x) F2 H2 (σ ++ [some (.ref x)]) (s2 ++ [.ow d2]) (adX ad s.length x)) :
    Po cl F H1 s ad F2 H2 σ s2 ad ∧ F2 x = none ∧ Cell cl F2 (H2 x) d2 ∧ ∀ a, own s2 ad a → a ≠ x := by
  have ls : σ.length = s.length := k1.len
  have lx : (s2 ++ [Sl.ow d2])[s.length]? = some (.ow d2) := by
    rw [← hl, List.getElem?_append_right (Nat.le_refl _)]
    simp
  have ax : adX ad s.length x s.length = x := by
    unfold adX
    rw [if_pos rfl]
  obtain ⟨_, y2, y3⟩ := y.ok.ow s.length _ d2 lx rfl
  rw [ax] at y2 y3
  have up : ∀ {i : Nat} {m : Sl}, s2[i]? = some m → (s2 ++ [Sl.ow d2])[i]? = some m ∧ adX ad s.length x i = ad i ∧ i < s.length := fun {i m} h => by
    have hi := (List.getElem?_eq_some_iff.mp h).1
    refine ⟨by rw [List.getElem?_append_left hi]; exact h, ?_, by omega⟩
    unfold adX
    rw [if_neg (by omega)]
  have up1 : ∀ {i : Nat} {m : Sl}, s[i]? = some m → (s ++ [Sl.ow d])[i]? = some m ∧ adX ad s.length x i = ad i := fun {i m} h => by
    have hi := (List.getElem?_eq_some_iff.mp h).1
    refine ⟨by rw [List.getElem?_append_left hi]; exact h, ?_⟩
    unfold adX
    rw [if_neg (by omega)]
  have no : ∀ a, own s2 ad a → a ≠ x := fun a ⟨i, m, f, g, c, z⟩ e => by
    obtain ⟨u1, u2, u3⟩ := up g
    have w := y.ok.ne i s.length m _ f d2 u1 c lx rfl (by omega)
    rw [u2, ax, z] at w
    exact w e
  refine ⟨⟨step_trans2 (O := own s ad) (st.mono fun a o _ _ => o.elim) y.step fun a h n o => ?_, ok_cut hl ls y.ok, fun a o => ?_, fun i f g => ⟨rfl, ?_⟩⟩, y2, y3, no⟩
  · rcases own_ext o with z | z
    · exact n z
    · exact h (z ▸ hx)
  · obtain ⟨i, m, f, g, c, z⟩ := o
    obtain ⟨u1, u2, u3⟩ := up g
    rcases y.sub a ⟨i, m, f, u1, c, u2.trans z⟩ with w | w
    · rcases own_ext w with v | v
      · exact .inl v
      · exact .inr (v ▸ hx)
    · refine .inr ?_
      cases q : H1 a with
      | none => rfl
      | some o => exact absurd w (st.2.2 a (by rw [q]; exact fun z => nomatch z)).1
  · obtain ⟨u1, u2⟩ := up1 g
    obtain ⟨_, f2, h2⟩ := y.pms i f u1
    refine ⟨f2, ?_⟩
    rcases app_at h2 with ⟨z1, z2⟩ | ⟨_, z⟩
    · exact z2
    · cases z
end
theorem agS_app {s r : S} : ∀ {as : List Ag} {t : S}, agS s as = some t → agS (s ++ r) as = some t
  | [], t, e => e
  | .d x :: as, t, e => by
    obtain ⟨t1, e1, rfl⟩ := Option.map_eq_some_iff.mp e
    simp only [agS, agS_app e1]
    rfl
  | .v j :: as, t, e => by
    obtain ⟨l, e1, e⟩ := bind_some e
    obtain ⟨b, e2, e⟩ := bind_some e
    obtain ⟨t1, e3, rfl⟩ := Option.map_eq_some_iff.mp e
    simp only [agS]
    rw [List.getElem?_append_left (List.getElem?_eq_some_iff.mp e1).1, e1]
    simp only [Option.bind_some, e2, agS_app e3]
    rfl
theorem agS_lt {s : S} : ∀ {as : List Ag} {t : S}, agS s as = some t → ∀ j, Ag.v j ∈ as → j < s.length
  | [], t, e, j, h => nomatch h
  | .d x :: as, t, e, j, h => by
    obtain ⟨t1, e1, rfl⟩ := Option.map_eq_some_iff.mp e
    rcases List.mem_cons.mp h with z | z
    · cases z
    · exact agS_lt e1 j z
  | .v i :: as, t, e, j, h => by
    obtain ⟨l, e1, e⟩ := bind_some e
    obtain ⟨b, e2, e⟩ := bind_some e
    obtain ⟨t1, e3, rfl⟩ := Option.map_eq_some_iff.mp e
    rcases List.mem_cons.mp h with z | z
    · cases z
      exact (List.getElem?_eq_some_iff.mp e1).1
    · exact agS_lt e3 j z
theorem cellsA_app {s r : S} : ∀ {as : List Ag}, (∀ j, Ag.v j ∈ as → j < s.length) → cellsA (s ++ r) as = cellsA s as
  | [], _ => rfl
  | .d x :: as, h => by
    unfold cellsA
    exact cellsA_app fun j z => h j (List.mem_cons_of_mem _ z)
  | .v j :: as, h => by
    have hj := h j (List.mem_cons_self ..)
    have e : cellAt (s ++ r) j = cellAt s j := by
      unfold cellAt
      rw [List.getElem?_append_left hj]
    unfold cellsA
    rw [e, cellsA_app fun j z => h j (List.mem_cons_of_mem _ z)]
theorem cellsA_lt {s : S} : ∀ {as : List Ag}, (∀ j, Ag.v j ∈ as → j < s.length) → ∀ j ∈ cellsA s as, j < s.length
  | [], _, j, h => nomatch h
  | .d x :: as, h, j, z => by
    unfold cellsA at z
    exact cellsA_lt (fun j z => h j (List.mem_cons_of_mem _ z)) j z
  | .v i :: as, h, j, z => by
    unfold cellsA at z
    split at z
    · rcases List.mem_cons.mp z with rfl | z
      · exact h _ (List.mem_cons_self ..)
      · exact cellsA_lt (fun j z => h j (List.mem_cons_of_mem _ z)) j z
    · exact cellsA_lt (fun j z => h j (List.mem_cons_of_mem _ z)) j z
theorem setCell_app {s r : S} {j : Nat} {d : D} (h : j < s.length) : setCell (s ++ r) j d = setCell s j d ++ r := by
  unfold setCell
  rw [List.getElem?_append_left h]
  cases s[j]? with
  | none => rfl
  | some l => exact List.set_append_left _ _ h
theorem back_app {r : S} : ∀ {as : List Ag} {t s : S}, (∀ j, Ag.v j ∈ as → j < s.length) → backA as t (s ++ r) = backA as t s ++ r
  | [], t, s, _ => by
    unfold backA
    rfl
  | a :: as, [], s, _ => by cases a <;> (unfold backA; rfl)
  | .d x :: as, b :: t, s, h => by
    unfold backA
    exact back_app fun j z => h j (List.mem_cons_of_mem _ z)
  | .v j :: as, b :: t, s, h => by
    cases b with
    | pm d =>
      unfold backA
      rw [setCell_app (h j (List.mem_cons_self ..))]
      exact back_app fun i z => by
        rw [setCell_len]
        exact h i (List.mem_cons_of_mem _ z)
    | _ =>
      unfold backA
      exact back_app fun j z => h j (List.mem_cons_of_mem _ z)
def makeG (c : PySem.Str) (np : Nat) (Φ : S → Option (D × S)) (as : List Ag) (s : S) : Option (D × S) := if as.length + 1 = np then (if nodupN (cellsA s as) = true then (agS s as).bind fun t => (Φ (.pm (.obj c [] []) :: t)).bind fun r => match r with
  | (.non, .pm d :: t2) => some (d, backA as t2 s)
  | _ => none else none) else none
theorem ag_ext {F : Hp} {σ ρ : L2.St} : ∀ {vs : List V} {as : List Ag}, AgAll cl F σ vs as → AgAll cl F (σ ++ ρ) vs as
  | _, _, .nil => .nil
  | _, _, .d z r => .d z (ag_ext r)
  | _, _, .v z r => .v (by rw [List.getElem?_append_left (List.getElem?_eq_some_iff.mp z).1]; exact z) (ag_ext r)
theorem makeG_run {c : PySem.Str} {np : Nat} {Φ : S → Option (D × S)} {F H : Hp} {σ : L2.St} {s s' : S} {ad : Nat → Addr} {vs : List V} {as : List Ag} {d : D} {E : XK} {Q : VK} {x dx : Addr} (k : Ok cl F H σ s ad) (h : AgAll cl F σ vs as) (e : makeG c np Φ as s = some (d, s')) (hx : H x = none) (hdx : H dx = none) (ne : dx ≠ x)
    (q : ∀ F' H', F' x = none → (∀ a, own s' ad a → a ≠ x) → Po cl F H s ad F' H' σ s' ad → Cell cl F' (H' x) d → Q (.ref x) H') : spG cl np Φ (.ref x :: vs) (upd (upd H dx (.own x)) x (.ins (cl c) dx [])) (fun v H2 => v = .non ∧ Q (.ref x) H2) E := by
  dsimp only [makeG] at e
  by_cases hl : as.length + 1 = np
  · rw [if_pos hl] at e
    by_cases hn : nodupN (cellsA s as) = true
    · rw [if_pos hn] at e
      obtain ⟨t, e2, e⟩ := bind_some e
      obtain ⟨⟨r1, r2⟩, e3, e⟩ := bind_some e
      cases r1 with
      | non =>
        cases r2 with
        | nil => cases e
        | cons b t2 =>
          cases b with
          | pm d0 =>
            cases e
            have nx : (upd H dx (.own x)) x = none := by rw [upd_ne (Ne.symm ne)]; exact hx
            have st1 : Step (fun _ => False) F H F (upd H dx (.own x)) := .newM k.ex hdx
            have st2 : Step (fun _ => False) F (upd H dx (.own x)) F (upd (upd H dx (.own x)) x (.ins (cl c) dx [])) := .newM st1.exH nx
            have st := st1.trans st2
            have kk := (Po.step0 k st).ok
            have ke := ok_ext (x := x) (d := .obj c [] []) kk (ex_none k.ex hx) (fun a o z => (own_some k o).1 (z ▸ hx)) ⟨dx, [], upd_same, rfl, .nil⟩
            have lt := agS_lt e2
            have hag : AgAll cl F (σ ++ [some (V.ref x)]) (.ref x :: vs) (.v s.length :: as) := by
              refine .v ?_ ?_
              · rw [← k.len, List.getElem?_append_right (Nat.le_refl _)]
                simp
              · exact ag_ext h
            have e4 : agS (s ++ [.ow (.obj c [] [])]) (.v s.length :: as) = some (.pm (.obj c [] []) :: t) := by
              simp only [agS, agS_app e2]
              rw [List.getElem?_append_right (Nat.le_refl _)]
              simp [toArg]
            have hn2 : nodupN (cellsA (s ++ [.ow (.obj c [] [])]) (.v s.length :: as)) = true := by
              have c1 : cellAt (s ++ [.ow (.obj c [] [])]) s.length = some (.obj c [] []) := by
                unfold cellAt
                rw [List.getElem?_append_right (Nat.le_refl _)]
                simp [Sl.cell]
              unfold cellsA
              rw [c1, if_pos (show (some (D.obj c [] [])).isSome = true from rfl), cellsA_app lt]
              unfold nodupN
              rw [hn, Bool.and_true, Bool.not_eq_true']
              cases q2 : (cellsA s as).contains s.length with
              | false => rfl
              | true => exact absurd (cellsA_lt lt _ (by simpa using q2)) (Nat.lt_irrefl _)
            refine ⟨by rw [List.length_cons, h.length]; exact hl, F, _, _, .non, _, ok_args ke hag hn2 e4, e3, fun v F2 H2 x2 h2 => ?_⟩
            have y := po_args ke hag hn2 e4 x2
            have eb : backA (.v s.length :: as) (.pm d :: t2) (s ++ [.ow (.obj c [] [])]) = backA as t2 s ++ [.ow d] := by
              have sc : setCell (s ++ [.ow (.obj c [] [])]) s.length d = s ++ [.ow d] := by
                unfold setCell
                rw [List.getElem?_append_right (Nat.le_refl _)]
                simp [reCell]
              show backA as t2 (setCell (s ++ [.ow (.obj c [] [])]) s.length d) = _
              rw [sc, back_app lt]
            rw [eb] at y
            obtain ⟨z1, z2, z3, z4⟩ := po_cut (s := s) k hx st (by rw [back_len]) y
            cases h2
            exact ⟨rfl, q F2 H2 z2 z4 z1 z3⟩
          | _ => cases e
      | _ => cases e
    · rw [if_neg hn] at e
      cases e
  · rw [if_neg hl] at e
    cases e
def mMake (c : PySem.Str) (np : Nat) (Φ : S → Option (D × S)) (dfl : List D) (a : MG) : M := fun s => (a s).bind fun p => makeG c np Φ (p.1 ++ dfl.map Ag.d) p.2
instance n_make {c : PySem.Str} {np : Nat} {Φ : S → Option (D × S)} {dvs : List V} {dfl : List D} {E : XK} {t : TA} {mt : MG} [A : EvG cl t mt] [B : Dv dvs dfl] : EvN cl (tMake (cl c) (spG cl np Φ) dvs E t) (mMake c np Φ dfl mt) := ⟨fun {F H σ s ad d s'} k e Q q => by
  obtain ⟨⟨as, s1⟩, e1, e⟩ := bind_some e
  refine A.run k e1 _ fun vs F1 H1 x1 h1 x dx hx hdx ne => ?_
  exact makeG_run x1.ok (ag_app h1 (ag_dv (B.all cl F1))) e hx hdx ne fun F2 H2 z1 z2 x2 z3 => q x F2 H2 (back_none x1 hx) z1 z2 (x1.trans x2) z3⟩
def mMakeK (c : PySem.Str) (np n m : Nat) (Φ : S → Option (D × S)) (is : List Nat) (dfl : List D) (a b : MG) : M := fun s => (a s).bind fun p => (b p.2).bind fun r => if p.1.length = n ∧ r.1.length = m then makeG c np Φ (pick is (p.1 ++ (r.1 ++ dfl.map Ag.d))) r.2 else none
/-- the new object, then the values in the parameters' order -/
def ordM (is : List Nat) (dvs : List V) : List V → List V → List V := fun vs zs => match vs with
  | [] => []
  | v :: vs => v :: pick is (vs ++ (zs ++ dvs))
instance n_makeK {c : PySem.Str} {np n m : Nat} {Φ : S → Option (D × S)} {is : List Nat} {dvs : List V} {dfl : List D} {E : XK} {t tk : TA} {mt mk : MG} [A : EvG cl t mt] [K : EvG cl tk mk] [B : Dv dvs dfl] : EvN cl (tMakeN (cl c) n m (spG cl np Φ) (ordM is dvs) E t tk) (mMakeK c np n m Φ is dfl mt mk) := ⟨fun {F H σ s ad d s'} k e Q q => by
  obtain ⟨⟨as, s1⟩, e1, e⟩ := bind_some e
  obtain ⟨⟨bs, s2⟩, e2, e⟩ := bind_some e
  dsimp only at e
  by_cases hl : as.length = n ∧ bs.length = m
  · rw [if_pos hl] at e
    refine A.run k e1 _ fun vs F1 H1 x1 h1 => K.run x1.ok e2 _ fun zs F2 H2 x2 h2 => ⟨by rw [h1.length]; exact hl.1, by rw [h2.length]; exact hl.2, fun x dx hx hdx ne => ?_⟩
    have x3 := x1.trans x2
    exact makeG_run x2.ok (ag_pick (ag_app (h1.mono x2.step.ex) (ag_app h2 (ag_dv (B.all cl F2)))) is) e hx hdx ne fun F3 H3 z1 z2 x4 z3 => q x F3 H3 (back_none x3 hx) z1 z2 (x3.trans x4) z3
  · rw [if_neg hl] at e
    cases e⟩
end Fr

set_option Elab.async false
set_option linter.all false
set_option maxRecDepth 100000
set_option maxHeartbeats 2000000
/-! Comparisons: lists of unlike lengths, dicts of unlike sizes, objects by their own ==. -/
namespace FQ
open PySem PySem.SeqAt
open AutoSeq1 (wpAny_loadPart')
open MeetsSeq MeetsSeq2 MeetsSeq3 SeqRoads2 GQ
section
variable {prog : Program} {w : World} {A : Around} {E : Value → Shared → Prop} {s : Shared} {R : Result → Shared → Prop}
theorem list_eqL {l b : Addr} {items items2 : Array Value} {n n2 : Nat} (hl1 : s.heap.get? l = some { cls := .type "list", data := .seq items n }) (hb1 : s.heap.get? b = some { cls := .type "list", data := .seq items2 n2 }) (hsz : items.size ≠ items2.size) (fin : R (.ok (.ret (.bool false))) s) :
    wpAny (model prog w) A.in1 (Builtin.«list.__eq__» ⟨[.ref l, .ref b], []⟩) (FinOf prog w A R) (fun e s' => R (.error e) s') s := by
  obtain ⟨hp, g, d, tk, os⟩ := s
  have f3 := AutoSeq1.sub_list_list
  have hne : (items.size != items2.size) = true := by simp [hsz]
  wp_walk using wpAny_loadPart' hl1, wpAny_loadPart' hb1
  exact fin
theorem list_neL {l b : Addr} {items items2 : Array Value} {n n2 : Nat} (hl1 : s.heap.get? l = some { cls := .type "list", data := .seq items n }) (hb1 : s.heap.get? b = some { cls := .type "list", data := .seq items2 n2 }) (hsz : items.size ≠ items2.size) (fin : R (.ok (.ret (.bool true))) s) :
    wpAny (model prog w) A.in1 (Builtin.«list.__ne__» ⟨[.ref l, .ref b], []⟩) (FinOf prog w A R) (fun e s' => R (.error e) s') s := by
  obtain ⟨hp, g, d, tk, os⟩ := s
  have f3 := AutoSeq1.sub_list_list
  have hne : (items.size != items2.size) = true := by simp [hsz]
  wp_walk using wpAny_loadPart' hl1, wpAny_loadPart' hb1
  exact fin
theorem rc_eqL {l b : Addr} {items items2 : Array Value} {n n2 : Nat} {Q : Value → Shared → Prop} (hu : A.units < cLine) (hl1 : s.heap.get? l = some { cls := .type "list", data := .seq items n }) (hb1 : s.heap.get? b = some { cls := .type "list", data := .seq items2 n2 }) (hsz : items.size ≠ items2.size) (fin : Q (.bool false) s) :
    wpAny (model prog w) A (richCompare .Eq (.ref l) (.ref b)) Q E s := by
  refine wpAny_richCompare_same_room (op := .Eq) ⟨_, hl1, rfl⟩ ⟨_, hb1, rfl⟩ F.slot_list_eq (call_here F.slot_list_eq ⟨_, hl1, rfl⟩ F.entry_list_eq (F.args_list_eq_2 _ _) ?_) hu
  exact list_eqL (R := wants (fun v s' => v ≠ .notImplemented ∧ Q v s') E) hl1 hb1 hsz ⟨(fun x => nomatch x), fin⟩
theorem rc_neL {l b : Addr} {items items2 : Array Value} {n n2 : Nat} {Q : Value → Shared → Prop} (hu : A.units < cLine) (hl1 : s.heap.get? l = some { cls := .type "list", data := .seq items n }) (hb1 : s.heap.get? b = some { cls := .type "list", data := .seq items2 n2 }) (hsz : items.size ≠ items2.size) (fin : Q (.bool true) s) :
    wpAny (model prog w) A (richCompare .NotEq (.ref l) (.ref b)) Q E s := by
  refine wpAny_richCompare_same_room (op := .NotEq) ⟨_, hl1, rfl⟩ ⟨_, hb1, rfl⟩ F.slot_list_ne (call_here F.slot_list_ne ⟨_, hl1, rfl⟩ F.entry_list_ne (F.args_list_ne_2 _ _) ?_) hu
  exact list_neL (R := wants (fun v s' => v ≠ .notImplemented ∧ Q v s') E) hl1 hb1 hsz ⟨(fun x => nomatch x), fin⟩
/-- two dicts, of unlike sizes or both empty -/
theorem same_dl {nm : String} {a b : Addr} {oa ob : Obj} {es es' : Array DictEntry} {ep ep' : Nat} {Q : Bool → Shared → Prop} (ha : (a == sysModules) = false) (hb : (b == sysModules) = false)
    (hoa : s.heap.get? a = some oa) (hda : oa.data = .dict es ep) (hob : s.heap.get? b = some ob) (hdb : ob.data = .dict es' ep') (hsz : es.size ≠ es'.size ∨ es.size = 0) (h : Q (es.size == es'.size) s) :
    wpAny (model prog w) A (Builtin.Dict.samePairs nm a b) Q E s := by
  unfold Builtin.Dict.samePairs Builtin.Dict.showsAll
  rw [if_neg (show ¬ (a == sysModules) = true by rw [ha]; exact Bool.false_ne_true), if_neg (show ¬ (b == sysModules) = true by rw [hb]; exact Bool.false_ne_true)]
  refine wpAny_bind (wpAny_pure (wpAny_bind (wpAny_pure ?_)))
  refine wpAny_bind (wpAny_dictEntries hoa hda ?_)
  dsimp only
  refine wpAny_bind (wpAny_dictEntries hob hdb ?_)
  by_cases hz : es.size = es'.size
  case neg =>
    rw [if_pos (by simpa using hz)]
    have hbf : (es.size == es'.size) = false := by simpa using hz
    rw [hbf] at h
    exact wpAny_bind (wpAny_rule (wpAny_pure h))
  case pos =>
    have h0 : es.size = 0 := by
      rcases hsz with z | z
      · exact absurd hz z
      · exact z
    have hbt : (es.size == es'.size) = true := by simpa using hz
    rw [hbt] at h
    rw [if_neg (by rw [hz]; simp)]
    refine wpAny_bind (wpAny_dictEpoch hoa hda ?_)
    refine wpAny_bind ?_
    rw [Std.Legacy.Range.forIn_eq_forIn_range']
    simp only [Std.Legacy.Range.size, Nat.sub_zero, Nat.add_sub_cancel, Nat.div_one]
    rw [h0]
    simp only [List.range'_zero, List.forIn_nil]
    refine wpAny_pure ?_
    exact wpAny_pure h
theorem eq_dl {a b : Addr} {oa ob : Obj} {es es' : Array DictEntry} {ep ep' : Nat} {Q : Value → Shared → Prop} (ha : (a == sysModules) = false) (hb : (b == sysModules) = false) (hu : A.units < cLine)
    (hoa : s.heap.get? a = some oa) (ca : oa.ExactDict) (hda : oa.data = .dict es ep) (hob : s.heap.get? b = some ob) (cb : ob.ExactDict) (hdb : ob.data = .dict es' ep') (hsz : es.size ≠ es'.size ∨ es.size = 0) (h : Q (.bool (es.size == es'.size)) s) :
    wpAny (model prog w) A (compareOp .Eq (.ref a) (.ref b)) Q E s := by
  have ta : s.TypeIs (.ref a) "dict" := ⟨oa, hoa, ca.1⟩
  have tb : s.TypeIs (.ref b) "dict" := ⟨ob, hob, cb.1⟩
  refine wpAny_richCompare_same_room (op := .Eq) ta tb PySem.F.slot_dict_eq (wpAny_call_entry PySem.F.slot_dict_eq ta PySem.F.entry_dict_eq ?_ (PySem.F.args_dict_eq_2 _ _)) hu
  show wpAny _ _ (Builtin.Dict.dictSlotArgs "__eq__" ⟨[.ref a, .ref b], []⟩ >>= _) _ _ s
  refine wpAny_bind ?_
  unfold Builtin.Dict.dictSlotArgs
  refine wpAny_bind (wpAny_notOrdered_dict ta ?_)
  show wpAny _ _ (pure (Value.ref a, Value.ref b)) _ _ s
  refine wpAny_pure ?_
  refine wpAny_bind (wpAny_isInstance (T := "dict") tb PySem.F.sub_dict_dict ?_)
  simp only [Bool.not_true, Bool.false_eq_true, if_false]
  refine wpAny_bind (wpAny_pure (wpAny_bind (wpAny_pure ?_)))
  refine wpAny_bind (same_dl ha hb hoa hda hob hdb hsz ?_)
  refine wpAny_pure ⟨_, rfl, ?_, ?_⟩
  · exact fun x => nomatch x
  · simpa using h
theorem ne_dl {a b : Addr} {oa ob : Obj} {es es' : Array DictEntry} {ep ep' : Nat} {Q : Value → Shared → Prop} (ha : (a == sysModules) = false) (hb : (b == sysModules) = false) (hu : A.units < cLine)
    (hoa : s.heap.get? a = some oa) (ca : oa.ExactDict) (hda : oa.data = .dict es ep) (hob : s.heap.get? b = some ob) (cb : ob.ExactDict) (hdb : ob.data = .dict es' ep') (hsz : es.size ≠ es'.size ∨ es.size = 0) (h : Q (.bool (!(es.size == es'.size))) s) :
    wpAny (model prog w) A (compareOp .NotEq (.ref a) (.ref b)) Q E s := by
  have ta : s.TypeIs (.ref a) "dict" := ⟨oa, hoa, ca.1⟩
  have tb : s.TypeIs (.ref b) "dict" := ⟨ob, hob, cb.1⟩
  refine wpAny_richCompare_same_room (op := .NotEq) ta tb PySem.F.slot_dict_ne (wpAny_call_entry PySem.F.slot_dict_ne ta PySem.F.entry_dict_ne ?_ (PySem.F.args_dict_ne_2 _ _)) hu
  show wpAny _ _ (Builtin.Dict.dictSlotArgs "__ne__" ⟨[.ref a, .ref b], []⟩ >>= _) _ _ s
  refine wpAny_bind ?_
  unfold Builtin.Dict.dictSlotArgs
  refine wpAny_bind (wpAny_notOrdered_dict ta ?_)
  show wpAny _ _ (pure (Value.ref a, Value.ref b)) _ _ s
  refine wpAny_pure ?_
  refine wpAny_bind (wpAny_isInstance (T := "dict") tb PySem.F.sub_dict_dict ?_)
  simp only [Bool.not_true, Bool.false_eq_true, if_false]
  refine wpAny_bind (wpAny_pure (wpAny_bind (wpAny_pure ?_)))
  refine wpAny_bind (same_dl ha hb hoa hda hob hdb hsz ?_)
  refine wpAny_pure ⟨_, rfl, ?_, ?_⟩
  · exact fun x => nomatch x
  · simpa using h
end
section
open PySem.W
variable {prog : Program} {w : World} {A : Around} {E : Value → Shared → Prop} {s : Shared} {K : Frag} {x C L f : Addr} {h₀ : Heap} {m : Str → Option Value} {ox : Obj} {od : Option Obj} {b tb : Value}
/-- != where the class has an own == alone -/
theorem ne_own {Q : Value → Shared → Prop} (hu : A.units + 1 < cLine) (X : K.In s.heap) (I : InstAt s.heap x ox C od) (hb : Looks (model prog w) s.heap (typeOf b) tb) (hn : notFirst K C tb = true)
    (hs : findIn K (.ref C) "__ne__" = some (some (.builtin "object.__ne__"))) (hm : mroIn K C (.type "object") = some true) (he : findIn K (.ref C) "__eq__" = some (some (.ref f))) (hf : isFn K (.ref f) = true)
    (h : wpAny (model prog w) A.in1 (call (.ref f) [.ref x, b]) (fun v s' => ∃ r, v = .bool r ∧ Q (.bool (!r)) s') E s) : wpAny (model prog w) A (richCompare .NotEq (.ref x) b) Q E s := by
  have L0 := I.type (M := model prog w)
  have L1 := looks_mroIn (M := model prog w) X hm
  have inst : Looks (model prog w) s.heap (isInstance (.ref x) (.type "object")) true := by
    unfold isInstance
    exact L0.andThen L1
  have body : wpAny (model prog w) A.in1 (Builtin.«object.__ne__» ⟨[.ref x, b], []⟩) (FinOf prog w A (wants (fun v s' => CmpBack Q v s') E)) (fun e s' => wants (fun v s' => CmpBack Q v s') E (.error e) s') s := by
    unfold Builtin.«object.__ne__»
    repeat (first
      | with_reducible refine wpAny_cRoomFor hu ?_
      | (refine wpAny_bind (m := callSpecialIfBound? (.ref x) (Str.ofString "__eq__") [b])
          (ifBound_K X I he hf (wpAny_mono h (fun r s' hr => by
            obtain ⟨b, rfl, hq⟩ := hr
            repeat (first | exact hq | exact wpAny_pure hq | exact wpAny_truthy_bool hq | (refine wpAny_bind (m := truthy (.bool _)) (wpAny_truthy_bool ?_)) | wp_step)) fun _ _ e => e)))
      | wp_step)
  have call1 : wpAny (model prog w) A (call (.builtin "object.__ne__") [.ref x, b]) (fun v s' => CmpBack Q v s') E s :=
    wpAny_call (codeAny_call_builtin PySem.F.cmp_object.ne.plain PySem.F.cmpEntry_ne (check_slot PySem.F.cmpKind_ne PySem.F.cmpSplit_ne inst (PySem.F.cmpArgs_ne _ _) body))
  have one : wpAny (model prog w) A (tryCompare (.ref x) (cmpInfo .NotEq).2.1 b) (fun r s' => ∃ v, r = some v ∧ Q v s') E s := by
    unfold tryCompare
    refine wpAny_bind ?_
    show wpAny _ _ (callSpecialIfBound? (.ref x) "__ne__" [b]) _ _ _
    simp only [callSpecialIfBound?, bindSpecialIfBound?]
    refine wpAny_holding (wpAny_bind (wpAny_bind (wpAny_bind (I.type.here ((looks_findIn X hs).here ?_)))))
    refine wpAny_bind (wpAny_askSetting (wpAny_ite ?_))
    have fin : ∀ {R : Option Value → Shared → Prop}, (∀ v s', CmpBack Q v s' → R (some v) s') → wpAny (model prog w) A (call (.builtin "object.__ne__") ([.ref x] ++ [b]) >>= fun v => pure (some v)) R E s :=
      fun hR => wpAny_bind (wpAny_mono call1 (fun v s' hv => wpAny_pure (hR v s' hv)) fun _ _ e => e)
    simp only [PySem.F.cmp_object.ne.bind]
    split
    · exact wpAny_bind (wpAny_pure (wpAny_pure (fin fun v s' hv => by cases v <;> first | exact hv.elim | exact wpAny_pure ⟨_, rfl, hv⟩)))
    · exact wpAny_tryCatch (wpAny_bind (wpAny_pure (wpAny_pure (fin fun v s' hv => by cases v <;> first | exact hv.elim | exact wpAny_pure ⟨_, rfl, hv⟩))))
  unfold richCompare
  simp only [oneThing_ref]
  refine wpAny_holding (wpAny_bind (wpAny_cRoomFor (Nat.lt_of_succ_lt hu) ?_))
  refine wpAny_bind (I.type.here (wpAny_bind (hb.here ?_)))
  split
  · rename_i q
    have e : subIn K tb (.ref C) = some false := by
      rcases Bool.or_eq_true_iff.mp hn with e | e
      · rw [beq_iff_eq.mp e] at q; simp at q
      · exact beq_iff_eq.mp e
    refine wpAny_bind ((looks_subIn X e).here ?_)
    simp only [Bool.false_eq_true, if_false]
    refine wpAny_bind (wpAny_mono one (fun r s' z => ?_) fun _ _ e => e)
    obtain ⟨v, rfl, hq⟩ := z
    exact wpAny_pure hq
  · refine wpAny_bind (wpAny_pure ?_)
    simp only [Bool.false_eq_true, if_false]
    refine wpAny_bind (wpAny_mono one (fun r s' z => ?_) fun _ _ e => e)
    obtain ⟨v, rfl, hq⟩ := z
    exact wpAny_pure hq
end
end FQ

set_option Elab.async false
set_option linter.all false
set_option maxRecDepth 100000
set_option maxHeartbeats 3200000
/-! Sets of a few tuples of ints and texts. -/
namespace TK
open PySem PySem.Spec PyProof.Rows L2
section
variable {P : Program} {w : World} {A : Around} {E : Value → Shared → Prop} {s : Shared}
abbrev hh (P : Program) (w : World) (k : List Key) : Int := tupleKeyHash (mixKind P w) k
abbrev At (P : Program) (w : World) (h : Heap) (k : List Key) (b : Addr) : Prop := IsTupleKey (mixKind P w) h k b
def Plain (v : Value) : Prop := (∃ i t, v = Value.int i t) ∨ ∃ x t, v = Value.str x t
theorem plain_all {k : List Key} {vs : List Value} (h : ItemsAre (mixKind P w) k vs) : ∀ v ∈ vs, Plain v := by
  induction h with
  | nil => exact fun v z => nomatch z
  | cons a _ ih =>
    intro v z
    rcases List.mem_cons.mp z with rfl | z
    · rcases keyIs_shape a with ⟨i, t, _, e⟩ | ⟨x, t, _, e⟩
      · exact .inl ⟨i, t, e⟩
      · exact .inr ⟨x, t, e⟩
    · exact ih v z
theorem no_class {v : Value} (h : Plain v) (n : Nat) : ofAClassStatement n v = pure false := by
  rcases h with ⟨i, t, rfl⟩ | ⟨x, t, rfl⟩ <;> (cases n <;> rfl)
theorem by_value {v : Value} (h : Plain v) (n : Nat) : ∃ r, hashByValue n v = pure r := by
  rcases h with ⟨i, t, rfl⟩ | ⟨x, t, rfl⟩
  · exact ⟨true, by cases n <;> rfl⟩
  · exact ⟨false, by cases n <;> rfl⟩
theorem tup_noClass {k : List Key} {b : Addr} {Q : Bool → Shared → Prop} (hb : At P w s.heap k b) (q : Q false s) : wpAny (model P w) A (ofAClassStatement 8 (.ref b)) Q E s := by
  have ty := hb.typeIs
  obtain ⟨ob, its, m, e1, _, e2, e3⟩ := hb
  have pl := plain_all e3
  have tt : (("tuple" : String) == "tuple") = true := by decide
  unfold ofAClassStatement
  refine wpAny_bind (wpAny_typeOf ty ?_); dsimp only
  simp only [tt, if_true, Bool.not_true, Bool.false_eq_true, if_false]
  try (refine wpAny_bind (wpAny_pure ?_); simp only [Bool.not_true, Bool.false_eq_true, if_false])
  change wpAny _ _ (seqItems? (.ref b) >>= _) Q E s
  refine wpAny_bind (wpAny_seqItems e1 e2 ?_); dsimp only
  refine wpAny_bind ?_
  change wpAny _ _ (forIn its _ _) _ _ s
  rw [← Array.forIn_toList]
  refine wpAny_forIn_list _ (fun left acc s1 => acc.1 = none ∧ s1 = s ∧ ∀ v ∈ left, Plain v) _ (fun v left acc s1 z => ?_) (fun acc s1 z => ?_) _ _ ⟨rfl, rfl, pl⟩
  · obtain ⟨_, rfl, all⟩ := z
    rw [no_class (all v List.mem_cons_self)]
    refine wpAny_bind (wpAny_pure ?_); simp only [Bool.false_eq_true, if_false]
    exact wpAny_pure ⟨rfl, rfl, fun y m => all y (List.mem_cons_of_mem _ m)⟩
  · obtain ⟨a1, a2⟩ := acc
    obtain ⟨za, rfl, _⟩ := z
    simp only at za; subst za; exact wpAny_pure q
theorem tup_byValue {k : List Key} {b : Addr} {Q : Bool → Shared → Prop} (hb : At P w s.heap k b) (q : ∀ r, Q r s) : wpAny (model P w) A (hashByValue 8 (.ref b)) Q E s := by
  have ty := hb.typeIs
  obtain ⟨ob, its, m, e1, _, e2, e3⟩ := hb
  have pl := plain_all e3
  unfold hashByValue
  refine wpAny_bind (wpAny_specialOf ty F.slot_tuple_hash.lookup ?_)
  change wpAny _ _ (seqItems? (.ref b) >>= _) Q E s
  refine wpAny_bind (wpAny_seqItems e1 e2 (wpAny_bind ?_))
  change wpAny _ _ (forIn its _ _) _ _ s
  rw [← Array.forIn_toList]
  refine wpAny_forIn_list _ (fun left acc s1 => s1 = s ∧ ∀ v ∈ left, Plain v) _ (fun v left acc s1 z => ?_) (fun acc s1 z => ?_) _ _ ⟨rfl, pl⟩
  · obtain ⟨rfl, all⟩ := z
    obtain ⟨r, er⟩ := by_value (all v List.mem_cons_self) 7
    rw [er]
    refine wpAny_bind (wpAny_pure ?_)
    cases r
    · exact wpAny_pure (by first | exact wpAny_pure (q _) | exact ⟨rfl, fun y m => all y (List.mem_cons_of_mem _ m)⟩)
    · exact wpAny_pure ⟨rfl, fun y m => all y (List.mem_cons_of_mem _ m)⟩
  · obtain ⟨a1, a2⟩ := acc
    obtain ⟨rfl, _⟩ := z
    cases a1 with
    | none => exact wpAny_pure (q _)
    | some r => exact wpAny_pure (q _)
theorem unseen {k : List Key} {b : Addr} {Q : Bool → Shared → Prop} (hb : At P w s.heap k b) {ys : List Value} (hy : ∀ y ∈ ys, ∃ k2 c, y = Value.ref c ∧ At P w s.heap k2 c) (q : Q false s) : wpAny (model P w) A (searchCouldBeSeen (.ref b) ys) Q E s := by
  unfold searchCouldBeSeen
  refine wpAny_bind (wpAny_forIn_list _ (fun left acc s1 => acc.1 = none ∧ s1 = s ∧ ∀ y ∈ left, ∃ k2 c, y = Value.ref c ∧ At P w s.heap k2 c) _ (fun y left acc s1 z => ?_) (fun acc s1 z => ?_) _ _ ⟨rfl, rfl, hy⟩)
  · obtain ⟨_, rfl, all⟩ := z
    obtain ⟨k2, c, rfl, hc⟩ := all y List.mem_cons_self
    have fin : ∀ {Z : ForInStep (MProd (Option Bool) PUnit) → Shared → Prop}, Z (.yield ⟨none, ⟨⟩⟩) s1 → Z (.yield ⟨none, ⟨⟩⟩) s1 := fun h => h
    dsimp only
    by_cases same : (b == c || (carriedByValue (.ref b) && carriedByValue (.ref c))) = true
    · exact wp_if_pos same (wpAny_pure ⟨rfl, rfl, fun y m => all y (List.mem_cons_of_mem _ m)⟩)
    · refine wp_if_neg same (wpAny_bind (wpAny_eqIsQuiet_tuple hb ?_)); simp only [Bool.not_true, Bool.false_eq_true, if_false]
      refine wpAny_bind (wpAny_eqIsQuiet_tuple hc ?_); simp only [Bool.not_true, Bool.false_eq_true, if_false]
      refine wpAny_bind (tup_noClass hb ?_); simp only [Bool.false_eq_true, if_false]
      refine wpAny_bind (tup_noClass hc ?_); simp only [Bool.false_eq_true, if_false]
      exact wpAny_pure ⟨rfl, rfl, fun y m => all y (List.mem_cons_of_mem _ m)⟩
  · obtain ⟨a1, a2⟩ := acc
    obtain ⟨za, rfl, _⟩ := z
    simp only at za; subst za; exact wpAny_pure q
structure Bag (P : Program) (w : World) (h : Heap) (a : Addr) (L : List (Addr × List Key)) (es : Array (Int × Value)) (ep : Nat) (t : SetTable) : Prop where
  ob : ∃ o, h.get? a = some o ∧ o.ExactSet ∧ o.data = .set es ep t
  rows : es.toList = L.map fun p => (hh P w p.2, Value.ref p.1)
  tab : TabOk t (L.map fun p => hh P w p.2)
  nd : (L.map (·.2)).Nodup
  tup : ∀ p ∈ L, At P w h p.2 p.1
  room : L.length * 5 < t.mask * 3
  few : L.length < 64
  led : w.params.followText "set-order" = true ∨ t.led = true
variable {a : Addr} {L : List (Addr × List Key)} {es : Array (Int × Value)} {ep : Nat} {t : SetTable}
theorem Bag.size (B : Bag P w s.heap a L es ep t) : es.size = L.length := by
  have z := congrArg List.length B.rows
  simpa using z
theorem Bag.place (B : Bag P w s.heap a L es ep t) : t.place.size = L.length := by
  have z := B.tab.sz
  simpa using z
theorem Bag.fits (B : Bag P w s.heap a L es ep t) : t.fits es.size = true := by
  have z1 := B.place; have z2 := B.size; have z3 := B.few; have z4 := B.room
  unfold SetTable.fits SetTable.fill
  rw [B.tab.dm]
  simp only [Bool.and_eq_true, beq_iff_eq, decide_eq_true_eq]
  refine ⟨by omega, ?_⟩
  show t.place.size + 0 ≤ t.mask
  omega
theorem Bag.row (B : Bag P w s.heap a L es ep t) {i : Nat} {p : Addr × List Key} (e : L[i]? = some p) : es[i]? = some (hh P w p.2, Value.ref p.1) := by
  have z : es.toList[i]? = some (hh P w p.2, Value.ref p.1) := by
    rw [B.rows, List.getElem?_map, e]
    rfl
  simpa using z
theorem no_dummy (m : Nat) : ∀ (n : Nat) (p : SetTable.Probe), p.dummy = none → (nth m p n).dummy = none
  | 0, _, h => h
  | n + 1, p, h => no_dummy m n (adv m p) (by unfold adv; split <;> exact h)
/-- the way's start -/
abbrev w0 (t : SetTable) (z : Int) : SetTable.Probe := runAt t.mask (SetTable.bits z % (t.mask + 1)) (SetTable.bits z)
theorem seek (B : Bag P w s.heap a L es ep t) {x : Addr} {k : List Key} (hx : At P w s.heap k x) (hu : A.units < cLine) {N : Nat} (n1 : N < 10 * SetTable.turns t.mask) (n2 : way t.mask (hh P w k) N ∉ t.place.toList) (n3 : ∀ c, c < N → way t.mask (hh P w k) c ∈ t.place.toList) {Q : SetFound → Shared → Prop}
    (yes : k ∈ L.map (·.2) → Q (.there none) s) (no : k ∉ L.map (·.2) → Q (.free (way t.mask (hh P w k) N) false) s) :
    ∀ (f c : Nat) (o : Option SetTable.Probe), o.getD (t.probeStart (hh P w k)) = nth t.mask (w0 t (hh P w k)) c → c ≤ N → N - c < f → (∀ (i : Nat) p, L[i]? = some p → p.2 = k → ∃ d, c ≤ d ∧ d < N ∧ t.place.toList[i]? = some (way t.mask (hh P w k) d)) →
      wpAny (model P w) A (setSearchFrom a (.ref x) (hh P w k) true f o) Q E s
  | 0, _, _, _, _, lt, _ => absurd lt (Nat.not_lt_zero _)
  | f + 1, c, o, eo, cN, lt, reach => by
    obtain ⟨ob, g1, g2, g3⟩ := B.ob
    have step : ∀ n, nth t.mask (nth t.mask (w0 t (hh P w k)) c) n = nth t.mask (w0 t (hh P w k)) (c + n) := fun n => (nth_add t.mask c _ n).symm
    have stepj : ∀ n, (nth t.mask (nth t.mask (w0 t (hh P w k)) c) n).j = way t.mask (hh P w k) (c + n) := fun n => congrArg SetTable.Probe.j (step n)
    have hN : c + (N - c) = N := by omega
    have hash : ∀ (i : Nat) p, L[i]? = some p → (es[i]?.map (·.1)).getD 0 = hh P w p.2 := fun i p e => by rw [B.row e]; rfl
    rw [setSearchFrom_succ]
    refine wpAny_bind (wpAny_setState_of g1 g3 B.fits ?_); dsimp only
    refine wp_if_neg (by unfold SetTable.gaveWay; rw [mask_odd B.tab.mok]; decide) ?_
    try refine wpAny_bind (wpAny_pure ?_)
    rcases go_spec t B.tab.ris B.tab.dm (fun i => (es[i]?.map (·.1)).getD 0) (hh P w k) (10 * SetTable.turns t.mask) (N - c) _ (no_dummy t.mask c _ rfl) (by omega) (fun n hn => by rw [stepj]; exact n3 _ (by omega)) (by rw [stepj, hN]; exact n2) with ⟨n, i, q1, q2, q3, q4, q5⟩ | ⟨q4, q5⟩
    · rw [stepj] at q2
      have pr : t.probe (fun i => (es[i]?.map (·.1)).getD 0) (hh P w k) (o.getD (t.probeStart (hh P w k))) = some (.candidate (way t.mask (hh P w k) (c + n)) i (nth t.mask (w0 t (hh P w k)) (c + (n + 1)))) := by rw [eo, ← stepj, ← step]; exact q5
      rw [pr]; dsimp only
      have li : i < L.length := by
        have z1 := (List.getElem?_eq_some_iff.mp q2).1
        have z2 := B.place
        rw [Array.length_toList] at z1; omega
      obtain ⟨p, ep'⟩ : ∃ p, L[i]? = some p := ⟨_, List.getElem?_eq_getElem li⟩
      have pm : p ∈ L := List.mem_of_getElem? ep'
      have live := slot_live B.tab.ris q2
      have tail : wpAny (model P w) A (searchRest a (.ref x) (hh P w k) true f es t (way t.mask (hh P w k) (c + n)) i (nth t.mask (w0 t (hh P w k)) (c + (n + 1)))) Q E s := by
        unfold searchRest
        rw [B.row ep']; dsimp only
        refine wpAny_bind (wpAny_holding (wpAny_eqBool_tuple hu (B.tup p pm) hx (wpAny_bind (wpAny_setState_of g1 g3 B.fits ?_)))); dsimp only
        by_cases kk : p.2 = k
        · exact wp_if_pos (by simp [kk]) (wpAny_pure (yes (List.mem_map.mpr ⟨p, pm, kk⟩)))
        · refine wp_if_neg (by simp [kk]) ?_
          try refine wpAny_bind (wpAny_pure ?_)
          rw [sameMem]; dsimp only
          simp only [if_true, live, B.row ep']
          refine wpAny_bind (wpAny_isSame_ref_self (wpAny_bind (wpAny_pure ?_))); simp only [if_true]
          refine wp_if_neg (by simp [kk]) (seek B hx hu n1 n2 n3 yes no f (c + (n + 1)) _ rfl (by omega) (by omega) fun j p2 ej ek => ?_)
          obtain ⟨d, d1, d2, d3⟩ := reach j p2 ej ek
          refine ⟨d, ?_, d2, d3⟩
          apply Classical.byContradiction
          intro hd
          by_cases dl : d < c + n
          · exact q4 (d - c) j (by omega) (by rw [stepj, show c + (d - c) = d by omega]; exact d3) ((hash j p2 ej).trans (congrArg (hh P w) ek))
          · have de : d = c + n := by omega
            rw [de] at d3
            have z := slot_live B.tab.ris d3
            rw [live] at z
            injection z with z
            rw [← z, ep'] at ej
            cases ej
            exact kk ek
      by_cases ld : t.led = true
      · refine wp_if_neg (by simp [ld]) ?_
        try refine wpAny_bind (wpAny_pure ?_)
        exact tail
      · refine wp_if_pos (by simp [ld]) (wpAny_bind (unseen hx (fun y hy => ?_) (wp_if_neg (by decide) ?_)))
        · obtain ⟨e, he, ee⟩ := List.mem_map.mp hy
          have m1 : e ∈ es.toList := by
            have z := he
            simp at z
            simpa using z.1
          rw [B.rows] at m1
          obtain ⟨p2, m2, e2⟩ := List.mem_map.mp m1
          exact ⟨p2.2, p2.1, by rw [← ee, ← e2], B.tup p2 m2⟩
        · try refine wpAny_bind (wpAny_pure ?_)
          exact tail
    · have pr : t.probe (fun i => (es[i]?.map (·.1)).getD 0) (hh P w k) (o.getD (t.probeStart (hh P w k))) = some (.empty (way t.mask (hh P w k) N) none) := by
        have z := stepj (N - c)
        rw [hN] at z
        rw [eo, ← z]; exact q5
      rw [pr]; dsimp only
      refine wpAny_pure (no fun km => ?_)
      obtain ⟨p0, m0, k0⟩ := List.mem_map.mp km
      obtain ⟨j, lj, ej⟩ := List.getElem_of_mem m0
      have ej2 : L[j]? = some p0 := by rw [List.getElem?_eq_getElem lj, ej]
      obtain ⟨d, d1, d2, d3⟩ := reach j p0 ej2 k0
      exact q4 (d - c) j (by omega) (by rw [stepj, show c + (d - c) = d by omega]; exact d3) ((hash j p0 ej2).trans (congrArg (hh P w) k0))
theorem sought (B : Bag P w s.heap a L es ep t) {x : Addr} {k : List Key} (hx : At P w s.heap k x) (hu : A.units < cLine) {Q : SetFound → Shared → Prop} (yes : k ∈ L.map (·.2) → Q (.there none) s)
    (no : ∀ N, k ∉ L.map (·.2) → way t.mask (hh P w k) N ∉ t.place.toList → (∀ c, c < N → way t.mask (hh P w k) c ∈ t.place.toList) → Q (.free (way t.mask (hh P w k) N) false) s) : wpAny (model P w) A (setSearch a (.ref x) (hh P w k) true) Q E s := by
  have z1 := B.few; have z2 := B.room; have z3 := B.place
  obtain ⟨N, n1, n2, n3⟩ := B.tab.first (by simp; omega) (hh P w k)
  have big : N < 100000 := by
    have z : SetTable.turns t.mask ≤ 1000 := by rcases B.tab.mok with e | e | e <;> rw [e] <;> decide
    omega
  unfold setSearch
  refine seek B hx hu n1 n2 n3 yes (fun z => no N z n2 n3) 100000 0 none rfl (Nat.zero_le _) (by omega) fun i p ei ek => ?_
  have li : i < t.place.toList.length := by
    have y := (List.getElem?_eq_some_iff.mp ei).1
    rw [Array.length_toList]; omega
  obtain ⟨d, d1, d2⟩ := B.tab.before n2 (i := i) (by rw [List.getElem?_map, ei, ← ek]; rfl) (List.getElem?_eq_getElem li)
  exact ⟨d, Nat.zero_le _, d1, by rw [List.getElem?_eq_getElem li, d2]⟩
theorem at_but {h h' : Heap} {k : List Key} {a b : Addr} {o : Obj} {es : Array (Int × Value)} {ep : Nat} {t : SetTable} (hb : At P w h k b) (ho : h.get? a = some o) (hd : o.data = .set es ep t) (sb : Heap.SameBut a h h') : At P w h' k b := by
  obtain ⟨ob, its, n, e1, e2, e3, e4⟩ := hb
  refine ⟨ob, its, n, (sb.2 b fun z => ?_).trans e1, e2, e3, e4⟩
  rw [z, ho] at e1
  cases e1
  rw [hd] at e3
  cases e3
theorem tab_np {t : SetTable} {zs : List Int} (T : TabOk t zs) : TabOk { t with plain := false } zs := ⟨T.ris, T.dm, T.sz, T.mok, T.bd, T.reach⟩
theorem order_rows (L : List (Addr × List Key)) (es : Array (Int × Value)) (order : Array Nat) (hr : es.toList = L.map fun p => (hh P w p.2, Value.ref p.1)) (hp : order.toList.Perm (List.range L.length)) :
    ∃ LL : List (Addr × List Key), (order.filterMap (es[·]?)).toList = (LL.map fun p => (hh P w p.2, Value.ref p.1)) ∧ LL.Perm L ∧ (LL.map fun p => hh P w p.2) = order.toList.map fun i => (es.map (·.1)).getD i 0 := by
  have sz : es.size = L.length := by simpa using congrArg List.length hr
  have ent : ∀ i (h : i < L.length), es[i]? = some (hh P w (L[i]).2, Value.ref (L[i]).1) := fun i h => by
    rw [← Array.getElem?_toList, hr, List.getElem?_map, List.getElem?_eq_getElem h] <;> rfl
  have key : ∀ l : List Nat, (∀ i ∈ l, i < L.length) → ∃ LL : List (Addr × List Key), l.filterMap (fun i => es[i]?) = (LL.map fun p => (hh P w p.2, Value.ref p.1)) ∧ LL = l.filterMap (fun i => L[i]?) ∧ (LL.map fun p => hh P w p.2) = l.map fun i => (es.map (·.1)).getD i 0 := by
    intro l
    induction l with
    | nil => intro _; exact ⟨[], rfl, rfl, rfl⟩
    | cons i l ih =>
      intro hl
      have hi := hl i List.mem_cons_self
      obtain ⟨LL, e1, e2, e3⟩ := ih fun j hj => hl j (List.mem_cons_of_mem _ hj)
      have e5 : (es.map (·.1))[i]? = some (hh P w (L[i]).2) := by rw [Array.getElem?_map, ent i hi] <;> rfl
      exact ⟨L[i] :: LL, by rw [List.filterMap_cons_some (ent i hi), e1] <;> rfl, by rw [List.filterMap_cons_some (List.getElem?_eq_getElem hi), e2], by rw [List.map_cons, List.map_cons, e3]; simp [Array.getD_eq_getD_getElem?, e5]⟩
  obtain ⟨LL, e1, e2, e3⟩ := key order.toList fun i hi => List.mem_range.mp (hp.mem_iff.mp hi)
  refine ⟨LL, by first | (rw [Array.toList_filterMap]; exact e1) | simpa using e1, ?_, e3⟩
  have key2 : ∀ n, n ≤ L.length → (List.range n).filterMap (fun i => L[i]?) = L.take n := by
    intro n
    induction n with
    | zero => intro _; rfl
    | succ n ih =>
      intro hn
      rw [List.range_succ, List.filterMap_append, ih (Nat.le_of_lt hn), List.take_succ, List.getElem?_eq_getElem hn, List.filterMap_cons_some (List.getElem?_eq_getElem hn)] <;> rfl
  have h1 : LL.Perm ((List.range L.length).filterMap fun i => L[i]?) := by
    rw [e2]
    exact hp.filterMap _
  rw [key2 L.length (Nat.le_refl _), List.take_length] at h1
  exact h1
theorem relay_bag {o : Obj} (ho : s.heap.get? a = some o) (hex : o.ExactSet) (hd : o.data = .set es ep t) (hrows : es.toList = L.map fun p => (hh P w p.2, Value.ref p.1)) (hsz : t.place.size = es.size) (hdm : t.dummies = #[]) (hfl : es.size ≤ t.mask)
    (nd : (L.map (·.2)).Nodup) (tup : ∀ p ∈ L, At P w s.heap p.2 p.1) (ld : w.params.followText "set-order" = true ∨ t.led = true) (few : L.length < 64) {wanted M : Nat}
    (hw : SetTable.sizeAbove wanted - 1 = M) (hM : MaskOk M) (hw2 : SetTable.sizeAbove wanted ≤ 128) (hn : L.length * 5 < M * 3) {Q : Unit → Shared → Prop}
    (hQ : ∀ h' L' es' ep' t', Heap.SameBut a s.heap h' → Bag P w h' a L' es' ep' t' → L'.Perm L → Q () { s with heap := h' }) : wpAny (model P w) A (setRelay a wanted) Q E s := by
  have hsl : es.size = L.length := by simpa using congrArg List.length hrows
  have hfits : t.fits es.size = true := by
    unfold SetTable.fits SetTable.fill
    rw [hdm, Bool.and_eq_true, beq_iff_eq, decide_eq_true_eq]
    show t.place.size = es.size ∧ t.place.size + 0 ≤ t.mask
    omega
  obtain ⟨t', order, e, hp, T, em, el, ep', ed⟩ := relaid_ok t (hs := es.map (·.1)) (wanted := wanted) hw hM (by rw [Array.size_map, hsl]; omega)
  rw [Array.size_map, hsl] at hp
  obtain ⟨LL, r1, r2, r3⟩ := order_rows L es order hrows hp
  rw [← r3] at T
  have hs2 : (order.filterMap (es[·]?)).size = es.size := by
    have z := congrArg List.length r1
    rw [Array.length_toList, List.length_map, r2.length_eq] at z
    rw [z, hsl]
  rw [setRelay_eq]
  refine wpAny_bind (wpAny_setState_of ho hd hfits ?_); dsimp only
  refine wp_if_neg (by rw [sizeLine_eq]; omega) ?_
  try refine wpAny_bind (wpAny_pure ?_)
  rw [e]; dsimp only
  refine wpAny_bind ?_
  refine wp_if_neg (by rw [hs2]; simp) ?_
  try refine wpAny_bind (wpAny_pure ?_)
  refine wpAny_pure ?_
  dsimp only
  refine wpAny_storeSet_of ho hd ?_ (by rw [hs2, hsl, sizeLine_eq]; omega)
  have sb : Heap.SameBut a s.heap (s.heap.update a (Obj.putSet (order.filterMap (es[·]?)) t')) := Heap.SameBut.update ..
  exact hQ _ LL (order.filterMap (es[·]?)) (ep + 1) t' sb ⟨⟨_, L2.store_at ho hd, ⟨hex.1, hex.2.1, hex.2.2⟩, rfl⟩, r1, T, (r2.map (·.2)).nodup_iff.mpr nd, fun p hpm => at_but (tup p (r2.mem_iff.mp hpm)) ho hd sb, by rw [r2.length_eq, em]; exact hn, by rw [r2.length_eq]; exact few, by rw [el]; exact ld⟩ r2
theorem bag_add (B : Bag P w s.heap a L es ep t) {x : Addr} {k : List Key} (hx : At P w s.heap k x) (hu : A.units < cLine) (room : L.length + 1 < 64) {Q : Bool → Shared → Prop}
    (hQ : ∀ b h' L' es' ep' t', Heap.SameBut a s.heap h' → Bag P w h' a L' es' ep' t' → (k ∈ L.map (·.2) → L' = L) → (k ∉ L.map (·.2) → L'.Perm ((x, k) :: L)) → Q b { s with heap := h' }) : wpAny (model P w) A (setAddHashed a (.ref x) (hh P w k)) Q E s := by
  obtain ⟨ob, g1, g2, g3⟩ := B.ob
  have sz := B.size; have br := B.room
  unfold setAddHashed
  refine wpAny_holding ?_
  rw [show (100000 : Nat) = 99999 + 1 from rfl, setAddHashedIn_succ]
  refine wpAny_bind (wpAny_setState_of g1 g3 B.fits ?_); dsimp only
  refine wp_if_neg (by simp [byScan, Value.scannable]) ?_
  try refine wpAny_bind (wpAny_pure ?_)
  refine wpAny_bind (sought B hx hu (fun km => ?_) fun N km n2 n3 => ?_)
  · dsimp only; exact wpAny_pure (hQ false s.heap L es ep t (Heap.SameBut.refl a s.heap) B (fun _ => rfl) fun z => absurd km z)
  dsimp only
  refine wpAny_bind (wpAny_setState_of g1 g3 B.fits ?_); dsimp only
  obtain ⟨q1, q2, q3, q4, q5, q6, q7, q8, q9⟩ := B.tab.put n2 n3
  generalize t.put (way t.mask (hh P w k) N) = pt at q1 q3 q4 q5 q6 q7 q8 q9 ⊢
  obtain ⟨t1, i⟩ := pt
  dsimp only at q1 q3 q4 q5 q6 q7 q8 q9 ⊢
  rw [← q1] at q2 q3
  have rows1 : (SetTable.insertAt es i (hh P w k, Value.ref x)).toList = (L.take i ++ (x, k) :: L.drop i).map fun p => (hh P w p.2, Value.ref p.1) := by
    rw [SetTable.toList_insertAt, B.rows, List.map_append, List.map_cons, List.map_take, List.map_drop]
  have pm : (L.take i ++ (x, k) :: L.drop i).Perm ((x, k) :: L) := by
    have z : (L.take i ++ (x, k) :: L.drop i).Perm ((x, k) :: (L.take i ++ L.drop i)) := List.perm_middle
    rwa [List.take_append_drop] at z
  have tab1 : TabOk t1 ((L.take i ++ (x, k) :: L.drop i).map fun p => hh P w p.2) := by
    rw [List.map_append, List.map_cons, List.map_take, List.map_drop]
    exact q3
  have len1 : (L.take i ++ (x, k) :: L.drop i).length = L.length + 1 := pm.length_eq
  have nd1 : ((L.take i ++ (x, k) :: L.drop i).map (·.2)).Nodup := (pm.map (·.2)).nodup_iff.mpr (List.nodup_cons.mpr ⟨km, B.nd⟩)
  have sz1 : (SetTable.insertAt es i (hh P w k, Value.ref x)).size = L.length + 1 := by
    have z := congrArg List.length rows1
    rw [Array.length_toList, List.length_map, len1] at z
    exact z
  generalize SetTable.insertAt es i (hh P w k, Value.ref x) = es1 at rows1 sz1 ⊢
  generalize L.take i ++ (x, k) :: L.drop i = L1 at rows1 pm tab1 len1 nd1
  have fin : ∀ t2 : SetTable, TabOk t2 (L1.map fun p => hh P w p.2) → t2.mask = t.mask → t2.led = t.led → t2.fill = L.length + 1 → wpAny (model P w) A (do
      storeSet a es1 t2
      if !false && t2.tooFull then setRelay a (SetTable.grown (es.size + 1))
      return true) Q E s := fun t2 T m ld fl => by
    refine wpAny_bind (wpAny_storeSet_of g1 g3 ?_ (by rw [sz1, sizeLine_eq]; omega))
    have sb : Heap.SameBut a s.heap (s.heap.update a (Obj.putSet es1 t2)) := Heap.SameBut.update ..
    have o1 := L2.store_at (es' := es1) (t' := t2) g1 g3
    have tup1 : ∀ p ∈ L1, At P w (s.heap.update a (Obj.putSet es1 t2)) p.2 p.1 := fun p hp => by
      rcases List.mem_cons.mp (pm.mem_iff.mp hp) with rfl | hp
      · exact at_but hx g1 g3 sb
      · exact at_but (B.tup p hp) g1 g3 sb
    have ld1 : w.params.followText "set-order" = true ∨ t2.led = true := by rw [ld]; exact B.led
    generalize s.heap.update a (Obj.putSet es1 t2) = h1 at sb o1 tup1 ⊢
    by_cases f : t2.tooFull = true
    · first
        | (refine wpAny_bind ?_; refine wp_if_pos (by simp [f]) ?_)
        | (refine wp_if_pos (by simp [f]) ?_; refine wpAny_bind ?_)
      have hfull : (L.length + 1) * 5 ≥ t.mask * 3 := by
        have z := f
        unfold SetTable.tooFull at z
        rw [decide_eq_true_eq, fl, m] at z
        exact z
      rw [sz]
      have hsz1 : t2.place.size = es1.size := by
        have z := T.sz
        rw [List.length_map, len1] at z
        rw [z, sz1]
      have cases2 : (t.mask = 7 ∧ L.length = 4) ∨ (t.mask = 31 ∧ L.length = 18) := by
        rcases B.tab.mok with e | e | e
        · left; rw [e] at hfull br; exact ⟨e, by omega⟩
        · right; rw [e] at hfull br; exact ⟨e, by omega⟩
        · exfalso; rw [e] at hfull; omega
      have go : ∀ M, SetTable.sizeAbove (SetTable.grown (L.length + 1)) - 1 = M → MaskOk M → SetTable.sizeAbove (SetTable.grown (L.length + 1)) ≤ 128 → (L.length + 1) * 5 < M * 3 →
          wpAny (model P w) A (setRelay a (SetTable.grown (L.length + 1))) (fun _ s' => wpAny (model P w) A (pure true) Q E s') E { s with heap := h1 } := fun M h1' h2' h3' h4' => by
        refine relay_bag (s := { s with heap := h1 }) o1 ⟨g2.1, g2.2.1, g2.2.2⟩ rfl rows1 hsz1 T.dm (by rw [sz1, m]; rcases cases2 with ⟨e, e2⟩ | ⟨e, e2⟩ <;> omega) nd1 tup1 ld1 (by rw [len1]; exact room) h1' h2' h3' (by rw [len1]; exact h4') ?_
        intro h2 L2 es2 ep2 t2 sb2 R2 pm2
        exact wpAny_pure (hQ true h2 L2 es2 ep2 t2 (sb.trans sb2) R2 (fun z => absurd z km) fun _ => pm2.trans pm)
      rcases cases2 with ⟨_, e2⟩ | ⟨_, e2⟩
      · refine go 31 (by rw [e2, size_20]) (.inr (.inl rfl)) (by rw [e2, size_20]; decide) (by omega)
      · refine go 127 (by rw [e2, size_76]) (.inr (.inr rfl)) (by rw [e2, size_76]; decide) (by omega)
    · first
        | refine wp_if_neg (by simp [f]) ?_
        | (refine wpAny_bind ?_; refine wp_if_neg (by simp [f]) ?_; refine wpAny_pure ?_)
      refine wpAny_pure (hQ true _ L1 es1 (ep + 1) t2 sb ⟨⟨_, o1, ⟨g2.1, g2.2.1, g2.2.2⟩, rfl⟩, rows1, T, nd1, tup1, ?_, by omega, ld1⟩ (fun z => absurd z km) fun _ => pm)
      have z := f
      unfold SetTable.tooFull at z
      rw [decide_eq_true_eq, fl] at z
      rw [len1]; omega
  have fl1 : t1.fill = L.length + 1 := by rw [q9, List.length_map]
  have next : ∀ r : Bool, wpAny (model P w) A (do
      storeSet a es1 (if r = true then t1 else { t1 with plain := false })
      if !false && (if r = true then t1 else { t1 with plain := false }).tooFull then setRelay a (SetTable.grown (es.size + 1))
      return true) Q E s := fun r => by
    cases r with
    | true => exact fin t1 tab1 q4 q5 fl1
    | false => exact fin { t1 with plain := false } (tab_np tab1) q4 q5 fl1
  by_cases pl : t1.plain = true
  · first
      | (refine wpAny_bind (wp_if_pos pl (tup_byValue hx fun r => ?_)); exact next r)
      | (refine wp_if_pos pl (wpAny_bind (tup_byValue hx fun r => ?_)); exact next r)
  · first
      | (refine wpAny_bind (wp_if_neg pl (wpAny_pure ?_)); exact next true)
      | (refine wp_if_neg pl (wpAny_bind (wpAny_pure ?_)); exact next true)
end
/-- what the set has of the first i -/
def Has (ks L : List (Addr × List Key)) (i : Nat) : Prop := (∀ p ∈ L, p ∈ ks.take i) ∧ (∀ p ∈ ks.take i, p.2 ∈ L.map (·.2)) ∧ L.length ≤ i
theorem take_one {α : Type} {l : List α} {i : Nat} {x : α} (h : l[i]? = some x) : l.take (i + 1) = l.take i ++ [x] := by
  rw [List.take_succ, h]
  rfl
theorem Has.same {ks L : List (Addr × List Key)} {i : Nat} {x : Addr × List Key} (g : Has ks L i) (h : ks[i]? = some x) (m : x.2 ∈ L.map (·.2)) : Has ks L (i + 1) := by
  refine ⟨fun p hp => ?_, fun p hp => ?_, by have := g.2.2; omega⟩
  · rw [take_one h]; exact List.mem_append_left _ (g.1 p hp)
  · rw [take_one h] at hp
    rcases List.mem_append.mp hp with z | z
    · exact g.2.1 p z
    · cases List.mem_singleton.mp z; exact m
theorem Has.more {ks L L' : List (Addr × List Key)} {i : Nat} {x : Addr × List Key} (g : Has ks L i) (h : ks[i]? = some x) (pm : L'.Perm (x :: L)) : Has ks L' (i + 1) := by
  refine ⟨fun p hp => ?_, fun p hp => ?_, by have := g.2.2; rw [pm.length_eq, List.length_cons]; omega⟩
  · rw [take_one h]
    rcases List.mem_cons.mp (pm.mem_iff.mp hp) with rfl | z
    · exact List.mem_append_right _ (List.mem_singleton_self _)
    · exact List.mem_append_left _ (g.1 p z)
  · rw [(pm.map (·.2)).mem_iff, List.map_cons]
    rw [take_one h] at hp
    rcases List.mem_append.mp hp with z | z
    · exact List.mem_cons_of_mem _ (g.2.1 p z)
    · cases List.mem_singleton.mp z; exact List.mem_cons_self
section
variable {P : Program} {w : World} {A : Around} {E : Value → Shared → Prop} {s : Shared}
theorem at_keep {h h' : Heap} {k : List Key} {b : Addr} (x : At P w h k b) (kp : ∀ c o, h.get? c = some o → h'.get? c = some o) : At P w h' k b := by
  obtain ⟨ob, its, n, e, r⟩ := x
  exact ⟨ob, its, n, kp b ob e, r⟩
theorem Bag.keep {h h' : Heap} {a : Addr} {L : List (Addr × List Key)} {es : Array (Int × Value)} {ep : Nat} {t : SetTable} (B : Bag P w h a L es ep t) (ka : ∀ o, h.get? a = some o → h'.get? a = some o) (kt : ∀ p ∈ L, At P w h' p.2 p.1) : Bag P w h' a L es ep t := by
  obtain ⟨o, e, r⟩ := B.ob
  exact ⟨⟨o, ka o e, r⟩, B.rows, B.tab, B.nd, kt, B.room, B.few, B.led⟩
theorem bag_new {h : Heap} {a : Addr} {b : Bool} (hb : w.params.followText "set-order" = true ∨ b = true) (e : h.get? a = some { cls := .type "set", dict := none, data := .set #[] 0 (.fresh 0 0 b) }) : Bag P w h a [] #[] 0 (.fresh 0 0 b) :=
  ⟨⟨_, e, ⟨rfl, rfl, rfl⟩, rfl⟩, rfl, ⟨List.Pairwise.nil, rfl, rfl, .inl rfl, fun x z => (nomatch z), fun i h j z => (by simp at z)⟩, List.nodup_nil, fun p z => (nomatch z), (by show 0 * 5 < 7 * 3; decide), (by show 0 < 64; decide), hb⟩
/-- the loop of set.update -/
theorem fill {I : Addr} {fp wr : List Addr} {G : Array GenState → Array GenState → Prop} {n : Nat} {Pv : Nat → Value → Prop} {St : Nat → Shared → Prop} {R : Result → Shared → Prop} (W : WalksS P w A.in1 I fp wr G n Pv St) (S : Addr) (nS : S ∉ fp) (ks : List (Addr × List Key)) (en : n = ks.length) (few : ks.length < 64) (val : ∀ i v, Pv i v → ∃ p, ks[i]? = some p ∧ v = .ref p.1)
    (h0 : Heap) (tup : ∀ p ∈ ks, At P w h0 p.2 p.1) (f0 : h0.get? S = none) (fw : ∀ b ∈ wr, h0.get? b = none) (hu : A.in1.units < cLine) : ∀ (m i : Nat) (s : Shared), n - i = m → i ≤ n → St i s → (∀ b o, h0.get? b = some o → s.heap.get? b = some o) → (∃ L es ep t, Bag P w s.heap S L es ep t ∧ Has ks L i) →
      (∀ s' L es ep t, Moved (S :: wr) G s s' → Bag P w s'.heap S L es ep t → Has ks L n → (∀ b o, h0.get? b = some o → s'.heap.get? b = some o) → R (.ok (.ret .none)) s') → codeAny (model P w) A (.builtin "set.update.loop" ⟨[.ref S, .ref I], []⟩) R s := by
  have nW : S ∉ wr := fun z => nS (W.sub _ z)
  have up : ∀ b ∈ wr, b ∈ S :: wr := fun b z => List.mem_cons_of_mem _ z
  have still : ∀ {s s' : Shared}, Moved wr G s s' → (∀ b o, h0.get? b = some o → s.heap.get? b = some o) → ∀ b o, h0.get? b = some o → s'.heap.get? b = some o := fun mv kp b o e => mv.heap b o (fun z => by rw [fw b z] at e; cases e) (kp b o e)
  have inks : ∀ {L : List (Addr × List Key)} {i : Nat}, Has ks L i → ∀ p ∈ L, p ∈ ks := fun g p hp => List.mem_of_mem_take (g.1 p hp)
  intro m
  induction m with
  | zero =>
    intro i s em hi st kp ⟨L, es, ep, t, B, g⟩ hR
    obtain rfl : i = n := by omega
    refine codeAny_builtin F.entry_set_update_loop ?_
    rw [Around.under_plainId F.plain_set_update_loop _]
    change wpAny _ A.in1 (pyNext (.ref I) >>= _) _ _ s
    refine wpAny_bind (W.done s _ _ st fun s' mv => ?_)
    have kp' := still mv kp
    exact wpAny_pure (hR s' L es ep t (mv.mono up) (B.keep (fun o e => mv.heap S o nW e) fun p hp => at_keep (tup p (inks g p hp)) kp') g kp')
  | succ m ih =>
    intro i s em hi st kp ⟨L, es, ep, t, B, g⟩ hR
    have lt : i < n := by omega
    refine codeAny_builtin F.entry_set_update_loop ?_
    rw [Around.under_plainId F.plain_set_update_loop _]
    change wpAny _ A.in1 (pyNext (.ref I) >>= _) _ _ s
    refine wpAny_bind (W.item i s _ _ lt st fun v s' hP st' mv => ?_)
    obtain ⟨p, hp, rfl⟩ := val i v hP
    have kp' := still mv kp
    have B' : Bag P w s'.heap S L es ep t := B.keep (fun o e => mv.heap S o nW e) fun q hq => at_keep (tup q (inks g q hq)) kp'
    have hx : At P w s'.heap p.2 p.1 := at_keep (tup p (List.mem_of_getElem? hp)) kp'
    change wpAny _ A.in1 (holding [Value.ref p.1] (setAdd S (.ref p.1)) >>= _) _ _ s'
    refine wpAny_bind (wpAny_holding ?_)
    unfold setAdd
    refine wpAny_holding (wpAny_bind (wpAny_pyHash_tuple hu hx ?_))
    have lL := g.2.2
    refine bag_add (s := { s' with toks := s'.toks + (p.2.length + 1) }) B' hx hu (by omega) fun b h' L' es' ep' t' sb B2 c1 c2 => ?_
    have g' : Has ks L' (i + 1) := by
      by_cases c : p.2 ∈ L.map (·.2)
      · rw [c1 c]; exact g.same hp c
      · exact g.more hp (c2 c)
    have kp2 : ∀ b o, h0.get? b = some o → h'.get? b = some o := fun b o e => (sb.2 b fun z => by rw [z, f0] at e; cases e).trans (kp' b o e)
    refine wpAny_pure ⟨plainId_quiet F.plain_set_update_loop _, ih (i + 1) _ (by omega) lt (W.frame _ s' _ _ st' (Nat.le_add_right _ _) fun b hb o e => ?_) kp2 ⟨L', es', ep', t', B2, g'⟩ fun s2 L2 es2 ep2 t2 mv2 B3 g2 kp3 => ?_⟩
    · exact (sb.2 b fun z => nS (z ▸ hb)).trans e
    · exact hR s2 L2 es2 ep2 t2 (Moved.trans W.gtrans ((mv.mono up).then_heap (Nat.le_add_right _ _) fun b o hb e => (sb.2 b fun z => hb (z ▸ List.mem_cons_self)).trans e) mv2) B3 g2 kp3
end
end TK

set_option Elab.async false
set_option linter.all false
set_option maxRecDepth 100000
set_option maxHeartbeats 3200000
namespace TK
open PySem PySem.Spec PyProof.Rows L2
section
variable {P : Program} {w : World} {A : Around} {E : Value → Shared → Prop} {s : Shared}
abbrev oSet (w : World) : Obj := { cls := .type "set", dict := none, data := .set #[] 0 (.fresh 0 0 (!w.params.followText "set-order")) }
/-- set(xs), whatever its loop does -/
theorem call_set {l : Addr} {items : Array Value} {Fin : Heap → Prop} {Q : Value → Shared → Prop} (calm : A.handled = none) (hl : s.heap.IsList l items) (hu : A.units + 3 < cLine)
    (go : ∀ (B : Around) (R : Result → Shared → Prop) (s0 : Shared), B.in1.handled = none → B.in1.units < cLine → (∀ b o, s.heap.get? b = some o → s0.heap.get? b = some o) → s0.heap.get? s.heap.objs.size = some (oSet w) → s0.heap.get? (s.heap.objs.size + 1) = some { cls := .type "list_iterator", data := .fields #[.ref l, .int 0 0] } → s0.heap.IsList l items → s0.gens = s.gens → s0.drawn = s.drawn → s0.os = s.os →
      (∀ h' tk, Fin h' → (∀ b o, s.heap.get? b = some o → h'.get? b = some o) → R (.ok (.ret .none)) { s with heap := h', toks := tk }) → codeAny (model P w) B (.builtin "set.update.loop" ⟨[.ref s.heap.objs.size, .ref (s.heap.objs.size + 1)], []⟩) R s0)
    (q : ∀ (h' : Heap) (tk : Nat), Fin h' → (∀ b o, s.heap.get? b = some o → h'.get? b = some o) → Q (.ref s.heap.objs.size) { s with heap := h', toks := tk }) : wpAny (model P w) A (call (.type "set") [.ref l]) Q E s := by
  obtain ⟨c, tl, hmro⟩ := F.called_set.mro
  have hmade := F.called_set.made; have hsub := F.called_set.sub
  refine wpAny_call (codeAny_of_tree ?_)
  change wpAny _ _ (callAny (.type "set") _) _ _ _
  refine wpAny_pure ⟨Code.quiet_builtin _ (by decide +kernel), codeAny_builtin F.entry_type_call ?_⟩
  rw [Around.under_plain (weight_type_call_type "set" [.ref l] []) rfl]
  have hnt := F.called_set.notType; have hcc := F.called_set.canCreate; have hct := F.typeCall_set_1 (.ref l)
  repeat (any_goals (first | assumption | wp_step))
  refine codeAny_mono (code_set_led1 (.ref l) (E := E) (Q₁ := fun obj s₁ => obj = .ref s.heap.objs.size ∧ s₁ = { s with heap := s.heap.push (oSet w) }) ⟨rfl, rfl⟩) fun r s₁ hr => ?_
  cases r with
  | error e => exact hr
  | ok fl =>
    cases fl with
    | ret obj =>
      obtain ⟨rfl, rfl⟩ := hr
      have hS : (s.heap.push (oSet w)).get? s.heap.objs.size = some (oSet w) := Heap.get?_push_size _ rfl
      have hT : Shared.TypeIs { s with heap := s.heap.push (oSet w) } (.ref s.heap.objs.size) "set" := ⟨_, hS, rfl⟩
      have hli := F.called_set.init.lookup; have hbi := F.called_set.init.bind (.ref s.heap.objs.size)
      repeat (any_goals (first | assumption | wp_step))
      refine codeAny_mono (codeAny_call_builtin (R := wants (fun r s₂ => r = .none ∧ ∃ h' tk, s₂ = { s with heap := h', toks := tk } ∧ Fin h' ∧ (∀ b o, s.heap.get? b = some o → h'.get? b = some o)) E) F.called_set.init.plain F.entry_set_init (check_set_init_1 hT ?_)) fun r₂ s₂ hr₂ => ?_
      · obtain ⟨⟨ocls, odict, odata, oslots⟩, hol, hcl, nl, hdl⟩ := hl
        simp only at hcl hdl
        subst hcl hdl
        have hol' : (s.heap.push (oSet w)).get? l = some { cls := .type "list", dict := odict, data := .seq items nl, slots := oslots } := Heap.get?_push_of_some _ hol
        have hsls := F.sub_list_set; have hslf := F.sub_list_frozenset
        have hne : (Value.type "list" == Value.type "dict") = false := by decide
        have hl1 : (s.heap.push (oSet w)).IsList l items := ⟨_, hol', rfl, nl, rfl⟩
        unfold Builtin.«set.__init__» noKeywords Builtin.Frozenset.updateFrom
        generalize hPI : pyIter = PI
        wp_walk
        subst hPI
        refine wpAny_pyIter_list hl1 (wpAny_bind (wpAny_runValue ?_))
        have hh3 : A.in1.in1.in1.handled = none := by simp [calm]
        have sz1 : (s.heap.push (oSet w)).objs.size = s.heap.objs.size + 1 := Heap.size_push ..
        rw [sz1]
        refine go _ _ _ hh3 hu (fun b o e => Heap.get?_push_of_some _ (Heap.get?_push_of_some _ e)) (Heap.get?_push_of_some _ hS) (by rw [← sz1]; exact Heap.get?_push_size _ rfl) (hl1.push _) rfl rfl rfl fun h' tk f kp => ?_
        exact wpAny_pure (wpAny_pure ⟨rfl, h', tk, rfl, f, kp⟩)
      · cases r₂ with
        | error e => exact hr₂
        | ok fl₂ =>
          cases fl₂ with
          | ret r =>
            obtain ⟨rfl, h', tk, rfl, f, kp⟩ := hr₂
            repeat (any_goals (first | assumption | wp_step))
            exact q _ _ f kp
          | _ => exact hr₂.elim
    | _ => exact hr.elim
/-- .. of a few tuples -/
theorem call_setT {l : Addr} {items : Array Value} (ks : List (Addr × List Key)) {Q : Value → Shared → Prop} (calm : A.handled = none) (hl : s.heap.IsList l items) (hit : items.toList = ks.map fun p => Value.ref p.1) (tup : ∀ p ∈ ks, At P w s.heap p.2 p.1) (few : ks.length < 64) (hu : A.units + 3 < cLine)
    (q : ∀ (h' : Heap) (tk : Nat) L es ep t, Bag P w h' s.heap.objs.size L es ep t → Has ks L ks.length → (∀ b o, s.heap.get? b = some o → h'.get? b = some o) → Q (.ref s.heap.objs.size) { s with heap := h', toks := tk }) : wpAny (model P w) A (call (.type "set") [.ref l]) Q E s := by
  have isz : items.size = ks.length := by have z := congrArg List.length hit; simpa using z
  have lS : l < s.heap.objs.size := by obtain ⟨o, e, _⟩ := hl; exact Heap.lt_size e
  have above : ∀ b, s.heap.objs.size ≤ b → s.heap.get? b = none := fun b hb => by
    cases z : s.heap.get? b with
    | none => rfl
    | some o => exact absurd (Nat.lt_of_lt_of_le (Heap.lt_size z) hb) (Nat.lt_irrefl _)
  have val : ∀ (i : Nat) (v : Value), items[i]? = some v → ∃ p, ks[i]? = some p ∧ v = .ref p.1 := fun i v hv => by
    have z : items.toList[i]? = some v := by rw [Array.getElem?_toList]; exact hv
    rw [hit, List.getElem?_map] at z
    cases y : ks[i]? with
    | none => rw [y] at z; cases z
    | some p => rw [y] at z; exact ⟨p, rfl, (Option.some.inj z).symm⟩
  refine call_set (Fin := fun h' => ∃ L es ep t, Bag P w h' s.heap.objs.size L es ep t ∧ Has ks L ks.length) calm hl hu (fun B R s0 c1 c2 kp gS gI gL eg ed eo fin => ?_) fun h' tk ⟨L, es, ep, t, b, g⟩ kp => q h' tk L es ep t b g kp
  refine fill ((Walks.list c1 _ l (Nat.ne_of_lt (Nat.lt_succ_of_lt lS)) items).toS) s.heap.objs.size (fun z => ?_) ks isz few val s.heap tup (above _ (Nat.le_refl _)) (fun b hb => above b (by rw [List.mem_singleton.mp hb]; exact Nat.le_succ _)) c2 (items.size - 0) 0 s0 (by omega) (Nat.zero_le _) ⟨⟨_, gI, rfl, rfl⟩, gL⟩ kp ⟨[], #[], 0, _, bag_new (by cases w.params.followText "set-order" <;> simp) gS, ⟨fun p z => (nomatch z), fun p z => (by simp at z), Nat.le_refl _⟩⟩ fun s' L es ep t mv b g kp2 => ?_
  · rcases List.mem_cons.mp z with z | z
    · exact absurd z (Nat.ne_of_lt (Nat.lt_succ_self _))
    · exact absurd (List.mem_singleton.mp z) (Nat.ne_of_gt lS)
  · obtain ⟨h', g2, d', tk', os'⟩ := s'
    have e1 : g2 = s.gens := (show g2 = s0.gens from mv.gens).trans eg
    have e2 : d' = s.drawn := (show d' = s0.drawn from mv.drawn).trans ed
    have e3 : os' = s.os := (show os' = s0.os from mv.os).trans eo
    subst e1 e2 e3
    rw [isz] at g
    exact fin h' tk' ⟨L, es, ep, t, b, g⟩ kp2
end
end TK

set_option Elab.async false
set_option linter.all false
set_option maxRecDepth 100000
set_option maxHeartbeats 3200000
namespace TK
open PySem PySem.Spec PyProof.Rows L2
section
variable {α : Type} [DecidableEq α]
def nub : List α → List α
  | [] => []
  | x :: r => if x ∈ r then nub r else x :: nub r
theorem mem_nub {x : α} : ∀ {l : List α}, x ∈ nub l ↔ x ∈ l
  | [] => by simp [nub]
  | y :: r => by
    unfold nub
    by_cases h : y ∈ r
    · rw [if_pos h, mem_nub]
      constructor
      · exact fun z => List.mem_cons_of_mem _ z
      · intro z
        rcases List.mem_cons.mp z with rfl | z
        · exact h
        · exact z
    · rw [if_neg h, List.mem_cons, List.mem_cons, mem_nub]
theorem nub_nodup : ∀ {l : List α}, (nub l).Nodup
  | [] => List.nodup_nil
  | y :: r => by
    unfold nub
    by_cases h : y ∈ r
    · rw [if_pos h]; exact nub_nodup
    · rw [if_neg h]; exact List.nodup_cons.mpr ⟨fun z => h (mem_nub.mp z), nub_nodup⟩
theorem nodup_len {a b : List α} (ha : a.Nodup) (hb : b.Nodup) (h : ∀ x, x ∈ a ↔ x ∈ b) : a.length = b.length := ((List.perm_ext_iff_of_nodup ha hb).mpr h).length_eq
theorem nub_snoc {l : List α} {x : α} : (nub (l ++ [x])).length = if x ∈ l then (nub l).length else (nub l).length + 1 := by
  by_cases h : x ∈ l
  · rw [if_pos h]
    refine nodup_len nub_nodup nub_nodup fun y => ?_
    rw [mem_nub, mem_nub, List.mem_append, List.mem_singleton]
    constructor
    · rintro (z | rfl)
      · exact z
      · exact h
    · exact fun z => .inl z
  · rw [if_neg h]
    have z : (nub (l ++ [x])).length = (x :: nub l).length := nodup_len nub_nodup (List.nodup_cons.mpr ⟨fun z => h (mem_nub.mp z), nub_nodup⟩) fun y => by
      rw [mem_nub, List.mem_append, List.mem_singleton, List.mem_cons, mem_nub]
      exact ⟨fun z => z.symm, fun z => z.symm⟩
    rw [z, List.length_cons]
end
section
variable {P : Program} {w : World} {A : Around} {E : Value → Shared → Prop} {s : Shared}
def HasK (ks : List Key) (S : Key → Bool) (n i : Nat) : Prop := (∀ k, S k = true ↔ k ∈ ks.take i) ∧ n = (nub (ks.take i)).length
theorem len_nub_le {α : Type} [DecidableEq α] : ∀ {l : List α}, (nub l).length ≤ l.length
  | [] => Nat.le_refl _
  | y :: r => by
    unfold nub
    have z := len_nub_le (l := r)
    split
    · rw [List.length_cons]; omega
    · rw [List.length_cons, List.length_cons]; omega
theorem fillK {I : Addr} {fp wr : List Addr} {G : Array GenState → Array GenState → Prop} {n : Nat} {Pv : Nat → Value → Prop} {St : Nat → Shared → Prop} {R : Result → Shared → Prop} (W : WalksS P w A.in1 I fp wr G n Pv St) (S : Addr) (nS : S ∉ fp) (ks : List Key) (en : n = ks.length) (few : ks.length ≤ 4000) (val : ∀ i v, Pv i v → ∃ k, ks[i]? = some k ∧ (mixKind P w).is k v = true ∧ v.scannable = true)
    (h0 : Heap) (f0 : h0.get? S = none) (fw : ∀ b ∈ wr, h0.get? b = none) : ∀ (m i : Nat) (s : Shared), n - i = m → i ≤ n → St i s → (∀ b o, h0.get? b = some o → s.heap.get? b = some o) → (∃ F c, s.heap.SetOf (mixKind P w) S F c ∧ HasK ks F c i) →
      (∀ s' F c, Moved (S :: wr) G s s' → s'.heap.SetOf (mixKind P w) S F c → HasK ks F c n → (∀ b o, h0.get? b = some o → s'.heap.get? b = some o) → R (.ok (.ret .none)) s') → codeAny (model P w) A (.builtin "set.update.loop" ⟨[.ref S, .ref I], []⟩) R s := by
  have nW : S ∉ wr := fun z => nS (W.sub _ z)
  have up : ∀ b ∈ wr, b ∈ S :: wr := fun b z => List.mem_cons_of_mem _ z
  have still : ∀ {s s' : Shared}, Moved wr G s s' → (∀ b o, h0.get? b = some o → s.heap.get? b = some o) → ∀ b o, h0.get? b = some o → s'.heap.get? b = some o := fun mv kp b o e => mv.heap b o (fun z => by rw [fw b z] at e; cases e) (kp b o e)
  intro m
  induction m with
  | zero =>
    intro i s em hi st kp ⟨F0, c, B, g⟩ hR
    obtain rfl : i = n := by omega
    refine codeAny_builtin F.entry_set_update_loop ?_
    rw [Around.under_plainId F.plain_set_update_loop _]
    change wpAny _ A.in1 (pyNext (.ref I) >>= _) _ _ s
    refine wpAny_bind (W.done s _ _ st fun s' mv => ?_)
    exact wpAny_pure (hR s' F0 c (mv.mono up) (setOf_at B fun o e => mv.heap S o nW e) g (still mv kp))
  | succ m ih =>
    intro i s em hi st kp ⟨F0, c, B, g⟩ hR
    have lt : i < n := by omega
    refine codeAny_builtin F.entry_set_update_loop ?_
    rw [Around.under_plainId F.plain_set_update_loop _]
    change wpAny _ A.in1 (pyNext (.ref I) >>= _) _ _ s
    refine wpAny_bind (W.item i s _ _ lt st fun v s' hP st' mv => ?_)
    obtain ⟨k, hk, h1, h2⟩ := val i v hP
    have kp' := still mv kp
    have B' := setOf_at B (h' := s'.heap) fun o e => mv.heap S o nW e
    change wpAny _ A.in1 (holding [v] (setAdd S v) >>= _) _ _ s'
    refine wpAny_bind (wpAny_holding ?_)
    unfold setAdd
    refine wpAny_holding (wpAny_bind ((mixKind P w).pyHash h1 ?_))
    have lc : c + 1 < scanBound := by
      have z1 := len_nub_le (l := ks.take i)
      have z2 : (ks.take i).length ≤ ks.length := by rw [List.length_take]; omega
      have z3 := g.2
      unfold scanBound
      omega
    refine wpAny_setAddHashed_of (s := { s' with toks := s'.toks + 1 }) h1 h2 B' lc fun h' sb B2 => ?_
    have g' : HasK ks (fun k' => F0 k' || decide (k' = k)) (if F0 k then c else c + 1) (i + 1) := by
      refine ⟨fun y => ?_, ?_⟩
      · rw [take_one hk, List.mem_append, List.mem_singleton, ← g.1 y]
        simp
      · rw [take_one hk, nub_snoc]
        by_cases z : k ∈ ks.take i
        · rw [if_pos z, if_pos ((g.1 k).mpr z)]; exact g.2
        · rw [if_neg z, if_neg fun y => z ((g.1 k).mp y), g.2]
    have kp2 : ∀ b o, h0.get? b = some o → h'.get? b = some o := fun b o e => (sb.2 b fun z => by rw [z, f0] at e; cases e).trans (kp' b o e)
    refine wpAny_pure ⟨plainId_quiet F.plain_set_update_loop _, ih (i + 1) _ (by omega) lt (W.frame _ s' _ _ st' (Nat.le_add_right _ _) fun b hb o e => ?_) kp2 ⟨_, _, B2, g'⟩ fun s2 F2 c2 mv2 B3 g2 kp3 => ?_⟩
    · exact (sb.2 b fun z => nS (z ▸ hb)).trans e
    · exact hR s2 F2 c2 (Moved.trans W.gtrans ((mv.mono up).then_heap (Nat.le_add_right _ _) fun b o hb e => (sb.2 b fun z => hb (z ▸ List.mem_cons_self)).trans e) mv2) B3 g2 kp3
theorem call_setK {l : Addr} {items : Array Value} (ks : List Key) {Q : Value → Shared → Prop} (calm : A.handled = none) (hl : s.heap.IsList l items) (isz : items.size = ks.length) (val : ∀ (i : Nat) (v : Value), items[i]? = some v → ∃ k, ks[i]? = some k ∧ (mixKind P w).is k v = true ∧ v.scannable = true) (few : ks.length ≤ 4000) (hu : A.units + 3 < cLine)
    (q : ∀ (h' : Heap) (tk : Nat) F c, h'.SetOf (mixKind P w) s.heap.objs.size F c → HasK ks F c ks.length → (∀ b o, s.heap.get? b = some o → h'.get? b = some o) → Q (.ref s.heap.objs.size) { s with heap := h', toks := tk }) : wpAny (model P w) A (call (.type "set") [.ref l]) Q E s := by
  have lS : l < s.heap.objs.size := by obtain ⟨o, e, _⟩ := hl; exact Heap.lt_size e
  have above : ∀ b, s.heap.objs.size ≤ b → s.heap.get? b = none := fun b hb => by
    cases z : s.heap.get? b with
    | none => rfl
    | some o => exact absurd (Nat.lt_of_lt_of_le (Heap.lt_size z) hb) (Nat.lt_irrefl _)
  refine call_set (Fin := fun h' => ∃ F c, h'.SetOf (mixKind P w) s.heap.objs.size F c ∧ HasK ks F c ks.length) calm hl hu (fun B R s0 c1 c2 kp gS gI gL eg ed eo fin => ?_) fun h' tk ⟨F, c, b, g⟩ kp => q h' tk F c b g kp
  have b0 : s0.heap.SetOf (mixKind P w) s.heap.objs.size (fun _ => false) 0 := ⟨_, #[], 0, _, gS, ⟨rfl, rfl, rfl⟩, rfl, fun e z => (nomatch z), fun k => ⟨fun z => (nomatch z), fun ⟨e, z, _⟩ => (nomatch z)⟩, by unfold scanBound; decide, rfl, rfl⟩
  refine fillK ((Walks.list c1 _ l (Nat.ne_of_lt (Nat.lt_succ_of_lt lS)) items).toS) s.heap.objs.size (fun z => ?_) ks isz few val s.heap (above _ (Nat.le_refl _)) (fun b hb => above b (by rw [List.mem_singleton.mp hb]; exact Nat.le_succ _)) (items.size - 0) 0 s0 (by omega) (Nat.zero_le _) ⟨⟨_, gI, rfl, rfl⟩, gL⟩ kp ⟨_, 0, b0, ⟨fun k => ⟨fun z => (nomatch z), fun z => (by simp at z)⟩, rfl⟩⟩ fun s' F c mv b g kp2 => ?_
  · rcases List.mem_cons.mp z with z | z
    · exact absurd z (Nat.ne_of_lt (Nat.lt_succ_self _))
    · exact absurd (List.mem_singleton.mp z) (Nat.ne_of_gt lS)
  · obtain ⟨h', g2, d', tk', os'⟩ := s'
    have e1 : g2 = s.gens := (show g2 = s0.gens from mv.gens).trans eg
    have e2 : d' = s.drawn := (show d' = s0.drawn from mv.drawn).trans ed
    have e3 : os' = s.os := (show os' = s0.os from mv.os).trans eo
    subst e1 e2 e3
    rw [isz] at g
    exact fin h' tk' ⟨F, c, b, g⟩ kp2
end
end TK

set_option Elab.async false
set_option linter.all false
set_option maxRecDepth 100000
set_option maxHeartbeats 2000000
namespace Fr
open PySem PySem.Spec PyProof.Rows L2 Evl RZ
variable {cl : PySem.Str → Addr}
/-! ### len(set(xs)) -/
def SetN (H : Hp) (xs : List V) (n : Nat) : Prop := (∃ ks : List Key, xs = ks.map kV ∧ ks.length ≤ 4000 ∧ n = (TK.nub ks).length) ∨ ∃ ks : List (Addr × List Key), xs = (ks.map fun p => V.ref p.1) ∧ (∀ p ∈ ks, H p.1 = some (.tup (p.2.map kV))) ∧ ks.length < 64 ∧ n = (TK.nub (ks.map (·.2))).length
def tLenSetW (K : PySem.W.Frag) (ta : TE) : TE := fun σ H Q => ta σ H fun x H1 => ∃ l xs n, x = V.ref l ∧ SqL K H1 l xs ∧ SetN H1 xs n ∧ Q (.int (n : Nat)) H1
theorem vals_ref : ∀ {ks : List (Addr × List Key)} {us : List Value}, Vals (ks.map fun p => V.ref p.1) us → us = ks.map fun p => Value.ref p.1
  | [], _, .nil => rfl
  | p :: ks, _, .cons r t => by
    cases r
    rw [vals_ref t]
    rfl
theorem vals_key {P : Program} {w : World} : ∀ {ks : List Key} {us : List Value} {i : Nat} {v : Value}, Vals (ks.map kV) us → us[i]? = some v → ∃ k, ks[i]? = some k ∧ (mixKind P w).is k v = true ∧ v.scannable = true
  | [], _, i, v, .nil, e => by simp at e
  | k :: ks, _, 0, v, .cons r t, e => by
    simp at e
    subst e
    exact ⟨k, rfl, kV_is r, key_scan r⟩
  | k :: ks, _, i + 1, v, .cons r t, e => by
    obtain ⟨k2, h1, h2⟩ := vals_key (P := P) (w := w) (i := i) t (by simpa using e)
    exact ⟨k2, by simpa using h1, h2⟩
namespace W
theorem lenSet {X : Cx} (K : PySem.W.Frag) {a : Expr} {ta : TE} {p p2 q pos : Pos} (hm : X.mg "len" = none) (hm2 : X.mg "set" = none) (hu : X.A.units + 64 < cLine) (ha : PE X a ta) (hK : X.K = K := by rfl) (hc : X.calm = true := by rfl) (hg : Gl X "len" := by rfl) (hg2 : Gl X "set" := by rfl)
    (na : starEach [a] X.env = (false, eval a X.env) :: starEach [] X.env := by rfl) : PE X (.Call (.Name "len" p) [.Call (.Name "set" p2) [a] [] q] [] pos) (tLenSetW K ta) := by
  subst hK
  refine ⟨fun pins s σ H Q I h => ?_⟩
  refine Call_ (ld_blt I hg hm PySem.boot_len (PyProof.Rows.callWith_builtin1 (PyProof.Rows.args_cons ?_ rfl) rfl rfl))
  refine Call_ (ld_blt I hg2 hm2 PyProof.Rows.boot_set (PyProof.Rows.callWith_type1 (PyProof.Rows.args_cons (thn (ha.run pins s σ H _ I h) fun v s1 ⟨x, H1, I1, r1, q1⟩ => PyProof.Rows.args_nil ?_) na) na rfl))
  obtain ⟨l, xs, n, rfl, hl, hn, q1⟩ := q1
  cases r1
  obtain ⟨its, r, pl, hz⟩ := I1.list hl
  rcases hn with ⟨ks, rfl, few, rfl⟩ | ⟨ks, rfl, tup, few, rfl⟩
  · have sz : its.toArray.size = ks.length := by rw [List.size_toArray, ← r.length, List.length_map]
    refine TK.call_setK ks (I1.ok.hd hc) pl.isList sz (fun i v e => vals_key r (by simpa using e)) few (by omega) fun h' tk F c hS g hk => PyProof.Rows.args_nil ?_
    obtain ⟨o, es, ep, t, ho, hex, hd, _, _, _, hf, hn⟩ := hS
    have I2 : Inv X pins σ H1 { s1 with heap := h', toks := tk } := I1.kept hk
    have ec : es.size = (TK.nub ks).length := by rw [hn, g.2, List.take_length]
    have lc := TK.len_nub_le (l := ks)
    exact call_len_set ho hex hd hf (by rw [ec]; omega) ⟨.int ((TK.nub ks).length : Nat), H1, I2.tok _, ⟨_, by rw [ec]⟩, q1⟩
  · refine TK.call_setT ks (I1.ok.hd hc) pl.isList (by simpa using vals_ref r) (fun p hp => key_of I1.hok (tup p hp)) few (by omega) fun h' tk L es ep t B g hk => PyProof.Rows.args_nil ?_
    obtain ⟨o, ho, hex, hd⟩ := B.ob
    have I2 : Inv X pins σ H1 { s1 with heap := h', toks := tk } := I1.kept hk
    have sz : es.size = L.length := B.size (s := { s1 with heap := h', toks := tk })
    have ec : L.length = (TK.nub (ks.map (·.2))).length := by
      rw [← List.length_map (f := fun p : Addr × List Key => p.2)]
      refine TK.nodup_len B.nd TK.nub_nodup fun y => ?_
      rw [TK.mem_nub]
      constructor
      · intro m
        obtain ⟨p, hp, rfl⟩ := List.mem_map.mp m
        exact List.mem_map.mpr ⟨p, List.mem_of_mem_take (g.1 p hp), rfl⟩
      · intro m
        obtain ⟨p, hp, rfl⟩ := List.mem_map.mp m
        exact g.2.1 p (by rw [List.take_length]; exact hp)
    have lf := B.few
    exact call_len_set ho hex hd (B.fits (s := { s1 with heap := h', toks := tk })) (by rw [sz]; omega) ⟨.int ((TK.nub (ks.map (·.2))).length : Nat), H1, I2.tok _, ⟨_, by rw [sz, ec]⟩, q1⟩
end W
/-- what it tells: keys alone, or a few tuples of keys -/
def tkeysOf : List D → Option (List (List Key))
  | [] => some []
  | d :: ds => d.tkey.bind fun k => (tkeysOf ds).map fun l => k :: l
def setLen (ds : List D) : Option Nat := match keysOf ds with
  | some ks => if ks.length ≤ 4000 then some (TK.nub ks).length else none
  | none => (tkeysOf ds).bind fun ks => if ks.length < 64 then some (TK.nub ks).length else none
def mLenSet (a : M) : M := fun s => (a s).bind fun p => match p.1 with
  | .lst ds => (setLen ds).map fun n => (.int (n : Nat), p.2)
  | _ => none
theorem tkeys_dx {F H : Hp} (e : Ex F H) : ∀ {vs : List V} {ds : List D} {kz : List (List Key)}, DxAll cl F vs ds → tkeysOf ds = some kz → ∃ ks : List (Addr × List Key), vs = (ks.map fun p => V.ref p.1) ∧ ks.map (·.2) = kz ∧ ∀ p ∈ ks, H p.1 = some (.tup (p.2.map kV))
  | _, [], kz, h, k => by
    cases h
    cases k
    exact ⟨[], rfl, rfl, fun p z => nomatch z⟩
  | _, d :: ds, kz, h, k => by
    cases h with
    | cons h1 h2 =>
      obtain ⟨k1, e1, k⟩ := bind_some k
      obtain ⟨l, e2, rfl⟩ := Option.map_eq_some_iff.mp k
      obtain ⟨ks, g1, g2, g3⟩ := tkeys_dx e h2 e2
      cases h1 with
      | @tup b ys es hb db =>
        have ey := keys_dx db e1
        subst ey
        refine ⟨(b, k1) :: ks, by rw [g1]; rfl, by rw [List.map_cons, g2], fun p hp => ?_⟩
        rcases List.mem_cons.mp hp with rfl | hp
        · exact e _ _ hb
        · exact g3 p hp
      | _ => cases e1
instance i_lenSet {K : PySem.W.Frag} {ta : TE} {ma : M} [A : EvX cl ta ma] : EvX cl (tLenSetW K ta) (mLenSet ma) := ⟨fun {F H σ s ad d s'} k e Q q => by
  obtain ⟨⟨d0, s1⟩, e1, e⟩ := bind_some e
  refine A.run k e1 _ fun v F1 H1 x1 h1 => ?_
  cases h1 with
  | @lst a xs ds ha da =>
    obtain ⟨n, e2, e⟩ := Option.map_eq_some_iff.mp e
    cases e
    refine ⟨a, xs, n, rfl, sq_of (x1.ok.ex _ _ ha), ?_, q _ _ _ x1 (.int _)⟩
    unfold setLen at e2
    split at e2
    · rename_i ks hk
      obtain ⟨h, rfl⟩ := cond_some e2
      exact .inl ⟨ks, keys_dx da hk, h, rfl⟩
    · obtain ⟨kz, hk, e2⟩ := bind_some e2
      obtain ⟨h, rfl⟩ := cond_some e2
      obtain ⟨ks, g1, rfl, g3⟩ := tkeys_dx x1.ok.ex da hk
      exact .inr ⟨ks, g1, g3, by simpa using h, rfl⟩
  | _ => cases e⟩
end Fr

set_option Elab.async false
set_option linter.all false
set_option maxRecDepth 100000
set_option maxHeartbeats 2000000
namespace Fr
open PySem PySem.Spec PyProof.Rows L2 Evl RZ
variable {cl : PySem.Str → Addr}
/-! ### comparisons, wider -/
def rLenD (neg : Bool) : R2 := fun x y H Q => ∃ a b xs ys, x = .ref a ∧ y = .ref b ∧ Rd H a (.lst xs) ∧ Rd H b (.lst ys) ∧ xs.length ≠ ys.length ∧ Q (.bl neg) H
def rDlD (neg : Bool) : R2 := fun x y H Q => ∃ a b, x = .ref a ∧ y = .ref b ∧ ∃ m n : Nat, ((∃ ks ls, Rd H a (.dK ks) ∧ Rd H b (.dK ls) ∧ ks.length = m ∧ ls.length = n) ∨ ∃ ks ls, Rd H a (.dT ks) ∧ Rd H b (.dT ls) ∧ ks.length = m ∧ ls.length = n) ∧ (m ≠ n ∨ m = 0) ∧ Q (.bl (if neg = true then !(m == n) else m == n)) H
theorem rd_list {X : Cx} {pins : List (Addr × Obj)} {σ : L2.St} {H : Hp} {s : Shared} {a : Addr} {xs : List V} (I : Inv X pins σ H s) (h : Rd H a (.lst xs)) : ∃ (its : List Value) (n : Nat), xs.length = its.length ∧ s.heap.get? a = some { cls := .type "list", data := .seq its.toArray n } := by
  obtain ⟨_, its, n, r, e⟩ := (show ObjOk X.prog X.w H s.heap a (.lst xs) from h.ok I.hok)
  exact ⟨its, n, r.length, e⟩
theorem rd_dict {X : Cx} {pins : List (Addr × Obj)} {σ : L2.St} {H : Hp} {s : Shared} {a : Addr} {m : Nat} (I : Inv X pins σ H s) (h : (∃ ks, Rd H a (.dK ks) ∧ ks.length = m) ∨ ∃ ks, Rd H a (.dT ks) ∧ ks.length = m) : (a == sysModules) = false ∧ ∃ o es ep, s.heap.get? a = some o ∧ o.ExactDict ∧ o.data = .dict es ep ∧ es.size = m := by
  rcases h with ⟨ks, h, rfl⟩ | ⟨ks, h, rfl⟩
  · obtain ⟨_, y, vs, r, o, es, ep, h1, h2, h3, _, h5, _⟩ := dk_rd I.hok h
    refine ⟨y, o, es, ep, h1, h2, h3, ?_⟩
    rw [r.length, ← h5.length, Array.length_toList]
  · obtain ⟨_, y, xs, r, o, es, ep, h1, h2, h3, h4, _⟩ := dt_rd I.hok h
    refine ⟨y, o, es, ep, h1, h2, h3, ?_⟩
    rw [size_of_entries h4]
    exact (Paired.length r).symm
namespace W
section
variable {X : Cx}
theorem eqLen (hu : X.A.units + 64 < cLine) : OpR X (compareOp .Eq) (rLenD false) := by
  intro pins s σ H x y v u Q I rx ry h
  obtain ⟨a, b, xs, ys, rfl, rfl, h1, h2, h3, q⟩ := h
  cases rx
  cases ry
  obtain ⟨i1, n1, l1, e1⟩ := rd_list I h1
  obtain ⟨i2, n2, l2, e2⟩ := rd_list I h2
  exact FQ.rc_eqL (by omega) e1 e2 (by simp; omega) (fin_bl I q rfl)
theorem neLen (hu : X.A.units + 64 < cLine) : OpR X (compareOp .NotEq) (rLenD true) := by
  intro pins s σ H x y v u Q I rx ry h
  obtain ⟨a, b, xs, ys, rfl, rfl, h1, h2, h3, q⟩ := h
  cases rx
  cases ry
  obtain ⟨i1, n1, l1, e1⟩ := rd_list I h1
  obtain ⟨i2, n2, l2, e2⟩ := rd_list I h2
  exact FQ.rc_neL (by omega) e1 e2 (by simp; omega) (fin_bl I q rfl)
theorem dl_split {H : Hp} {a b : Addr} {m n : Nat} (h : (∃ ks ls, Rd H a (.dK ks) ∧ Rd H b (.dK ls) ∧ ks.length = m ∧ ls.length = n) ∨ ∃ ks ls, Rd H a (.dT ks) ∧ Rd H b (.dT ls) ∧ ks.length = m ∧ ls.length = n) :
    ((∃ ks, Rd H a (.dK ks) ∧ ks.length = m) ∨ ∃ ks, Rd H a (.dT ks) ∧ ks.length = m) ∧ ((∃ ks, Rd H b (.dK ks) ∧ ks.length = n) ∨ ∃ ks, Rd H b (.dT ks) ∧ ks.length = n) := by
  rcases h with ⟨ks, ls, h1, h2, h3, h4⟩ | ⟨ks, ls, h1, h2, h3, h4⟩
  · exact ⟨.inl ⟨ks, h1, h3⟩, .inl ⟨ls, h2, h4⟩⟩
  · exact ⟨.inr ⟨ks, h1, h3⟩, .inr ⟨ls, h2, h4⟩⟩
theorem eqDl (hu : X.A.units + 64 < cLine) : OpR X (compareOp .Eq) (rDlD false) := by
  intro pins s σ H x y v u Q I rx ry h
  obtain ⟨a, b, rfl, rfl, m, n, h, hz, q⟩ := h
  cases rx
  cases ry
  obtain ⟨g1, g2⟩ := dl_split h
  obtain ⟨y1, o1, es1, ep1, a1, a2, a3, a4⟩ := rd_dict I g1
  obtain ⟨y2, o2, es2, ep2, b1, b2, b3, b4⟩ := rd_dict I g2
  exact FQ.eq_dl y1 y2 (by omega) a1 a2 a3 b1 b2 b3 (by rw [a4, b4]; exact hz) (fin_bl I q (by rw [a4, b4]; rfl))
theorem neDl (hu : X.A.units + 64 < cLine) : OpR X (compareOp .NotEq) (rDlD true) := by
  intro pins s σ H x y v u Q I rx ry h
  obtain ⟨a, b, rfl, rfl, m, n, h, hz, q⟩ := h
  cases rx
  cases ry
  obtain ⟨g1, g2⟩ := dl_split h
  obtain ⟨y1, o1, es1, ep1, a1, a2, a3, a4⟩ := rd_dict I g1
  obtain ⟨y2, o2, es2, ep2, b1, b2, b3, b4⟩ := rd_dict I g2
  exact FQ.ne_dl y1 y2 (by omega) a1 a2 a3 b1 b2 b3 (by rw [a4, b4]; exact hz) (fin_bl I q (by rw [a4, b4]; rfl))
end
end W
def rEqW (K : PySem.W.Frag) : R2 := fun x y H Q => U.rEqU K x y H Q ∨ (rLenD false x y H Q ∨ rDlD false x y H Q)
def rNeW (K : PySem.W.Frag) : R2 := fun x y H Q => U.rNeU K x y H Q ∨ (rLenD true x y H Q ∨ rDlD true x y H Q)
theorem W.eq {X : Cx} (K : PySem.W.Frag) (hu : X.A.units + 64 < cLine) (h : X.K = K := by rfl) : OpR X (compareOp .Eq) (rEqW K) := .or (UK.eq K hu h) (.or (W.eqLen hu) (W.eqDl hu))
theorem W.ne {X : Cx} (K : PySem.W.Frag) (hu : X.A.units + 64 < cLine) (h : X.K = K := by rfl) : OpR X (compareOp .NotEq) (rNeW K) := .or (UK.ne K hu h) (.or (W.neLen hu) (W.neDl hu))
def eqX : D → D → Option Bool
  | .lst xs, .lst ys => if xs.length = ys.length then none else some false
  | .dk ks _, .dk ls _ => if ks.length = ls.length then (if ks.length = 0 then some true else none) else some false
  | .dt ks _, .dt ls _ => if ks.length = ls.length then (if ks.length = 0 then some true else none) else some false
  | _, _ => none
def eqW (a b : D) : Option Bool := if (a.shp && b.shp) = true then some (PyData.eqv a.py b.py) else eqX a b
def dEqW (a b : D) : Option D := (eqW a b).map D.bl
def dNeW (a b : D) : Option D := (eqW a b).map fun r => .bl (!r)
theorem len_if {m n : Nat} {r : Bool} (h : (if m = n then (if m = 0 then some true else none) else some false) = some r) : (m ≠ n ∨ m = 0) ∧ r = (m == n) := by
  by_cases e : m = n
  · rw [if_pos e] at h
    obtain ⟨h1, rfl⟩ := cond_some h
    exact ⟨.inr h1, by simp [e]⟩
  · rw [if_neg e] at h
    cases h
    exact ⟨.inl e, by simp [e]⟩
theorem eqX_run {F H : Hp} {x y : V} {dx dy : D} {r : Bool} (e : Ex F H) (hx : Dx cl F x dx) (hy : Dx cl F y dy) (k : eqX dx dy = some r) :
    (r = false ∧ ∃ a b xs ys, x = .ref a ∧ y = .ref b ∧ Rd H a (.lst xs) ∧ Rd H b (.lst ys) ∧ xs.length ≠ ys.length) ∨ ∃ a b, x = .ref a ∧ y = .ref b ∧ ∃ m n : Nat, ((∃ ks ls, Rd H a (.dK ks) ∧ Rd H b (.dK ls) ∧ ks.length = m ∧ ls.length = n) ∨ ∃ ks ls, Rd H a (.dT ks) ∧ Rd H b (.dT ls) ∧ ks.length = m ∧ ls.length = n) ∧ (m ≠ n ∨ m = 0) ∧ r = (m == n) := by
  cases hx with
  | @lst a xs ds ha da =>
    cases hy with
    | @lst b ys es hb db =>
      simp only [eqX] at k
      by_cases h : ds.length = es.length
      · rw [if_pos h] at k
        cases k
      · rw [if_neg h] at k
        cases k
        exact .inl ⟨rfl, a, b, xs, ys, rfl, rfl, .inl (e _ _ ha), .inl (e _ _ hb), by rw [da.length, db.length]; exact h⟩
    | _ => cases k
  | @dk a o ks us ds ha l da =>
    cases hy with
    | @dk b o2 ls us2 es hb l2 db =>
      obtain ⟨h1, h2⟩ := len_if k
      exact .inr ⟨a, b, rfl, rfl, _, _, .inl ⟨_, _, .inr ⟨_, e _ _ ha⟩, .inr ⟨_, e _ _ hb⟩, zip_len l.1, zip_len l2.1⟩, h1, h2⟩
    | _ => cases k
  | @dt a o ks us ds ha l da =>
    cases hy with
    | @dt b o2 ls us2 es hb l2 db =>
      obtain ⟨h1, h2⟩ := len_if k
      exact .inr ⟨a, b, rfl, rfl, _, _, .inr ⟨_, _, .inr ⟨_, e _ _ ha⟩, .inr ⟨_, e _ _ hb⟩, zip_len l.1, zip_len l2.1⟩, h1, h2⟩
    | _ => cases k
  | _ => cases k
instance ox_eqW {K : PySem.W.Frag} : OpX cl (rEqW K) dEqW := ⟨fun {F H x y dx dy d} e hx hy k Q q => by
  obtain ⟨r, k1, rfl⟩ := Option.map_eq_some_iff.mp k
  unfold eqW at k1
  by_cases hs : (dx.shp && dy.shp) = true
  · rw [if_pos hs] at k1
    cases k1
    exact .inl (ox_eq.run e hx hy (by unfold dEq; rw [if_pos hs]) Q q)
  · rw [if_neg hs] at k1
    rcases eqX_run e hx hy k1 with ⟨rfl, a, b, xs, ys, h1, h2, h3, h4, h5⟩ | ⟨a, b, h1, h2, m, n, h3, h4, rfl⟩
    · exact .inr (.inl ⟨a, b, xs, ys, h1, h2, h3, h4, h5, q _ _ _ (.refl e) (.bl _)⟩)
    · exact .inr (.inr ⟨a, b, h1, h2, m, n, h3, h4, q _ _ _ (.refl e) (.bl _)⟩)⟩
instance ox_neW {K : PySem.W.Frag} : OpX cl (rNeW K) dNeW := ⟨fun {F H x y dx dy d} e hx hy k Q q => by
  obtain ⟨r, k1, rfl⟩ := Option.map_eq_some_iff.mp k
  unfold eqW at k1
  by_cases hs : (dx.shp && dy.shp) = true
  · rw [if_pos hs] at k1
    cases k1
    exact .inl (ox_ne.run e hx hy (by unfold dNe; rw [if_pos hs]) Q q)
  · rw [if_neg hs] at k1
    rcases eqX_run e hx hy k1 with ⟨rfl, a, b, xs, ys, h1, h2, h3, h4, h5⟩ | ⟨a, b, h1, h2, m, n, h3, h4, rfl⟩
    · exact .inr (.inl ⟨a, b, xs, ys, h1, h2, h3, h4, h5, q _ _ _ (.refl e) (.bl _)⟩)
    · exact .inr (.inr ⟨a, b, h1, h2, m, n, h3, h4, q _ _ _ (.refl e) (.bl _)⟩)⟩
/-! ### objects, by their own == -/
def rCmpO (C : Addr) (sp : Sp) (E : XK) (neg : Bool) : R2 := fun x y H Q => ∃ a dx fs b dy gs, x = .ref a ∧ y = .ref b ∧ H a = some (.ins C dx fs) ∧ H b = some (.ins C dy gs) ∧ sp [x, y] H (fun v H1 => ∃ r, v = .bl r ∧ Q (.bl (if neg = true then !r else r)) H1) E
/-- what of the text is asked -/
structure EqOf (K : PySem.W.Frag) (C f : Addr) : Prop where
  eq : PySem.W.findIn K (.ref C) "__eq__" = some (some (.ref f))
  fn : PySem.W.isFn K (.ref f) = true
  ne : PySem.W.findIn K (.ref C) "__ne__" = some (some (.builtin "object.__ne__"))
  ob : PySem.W.mroIn K C (.type "object") = some true
namespace W
section
variable {X : Cx} {CX : CXT} {k : Nat} {C f : Addr} {fd : FuncData} {ps : List PySem.Str} {sp : Sp} {E : XK}
theorem eqO (T : EqOf X.K C f) (F : FnOk X.prog X.w X.K X.mg X.base CX k f fd ps sp) (hr : Room (k + 1) X.A) (hb : Binds X.K fd ps []) (hx : Passes CX X.nox E) : OpR X (compareOp .Eq) (rCmpO C sp E false) := by
  intro pins s σ H x y v u Q I rx ry h
  obtain ⟨a, dx, fs, b, dy, gs, rfl, rfl, ha, hb', hsp⟩ := h
  cases rx
  cases ry
  obtain ⟨mA, J, _⟩ := ins_get I.hok ha
  obtain ⟨mB, J', _⟩ := ins_get I.hok hb'
  obtain ⟨od, J, _⟩ := J.look
  obtain ⟨od', J', _⟩ := J'.look
  obtain ⟨m, hF⟩ := I.fr
  refine PySem.W.cmp_K (op := .Eq) (tb := .ref C) (hr.mono (Nat.le_succ _)).units0 hF I.ok.mod.kin J J'.type (by simp [PySem.W.notFirst]) T.eq T.fn ?_
  have hl := F.len _ _ _ _ hsp
  have r2 : Vals [V.ref a, V.ref b] [Value.ref a, Value.ref b] := .cons rfl (.cons rfl .nil)
  refine wpAny_call (codeAny_mono (F.run X.A X.stack s H ⟨[.ref a, .ref b], []⟩ [.ref a, .ref b] [.ref a, .ref b] _ E (hr.mono (Nat.le_succ _)) I.env0 (by simpa using hb s [.ref a, .ref b] I.kIn (by simpa using hl)) r2 hsp) fun r s' hq => ?_)
  cases r with
  | error e => exact False.elim (hx pins σ H s e s' (I.wish _) hq)
  | ok fl =>
    cases fl with
    | ret w =>
      obtain ⟨z, H', I', rz, r, rfl, q⟩ := I.after hq
      cases rz
      exact ⟨.bl r, H', I', rfl, q⟩
    | next => exact False.elim hq
    | brk => exact False.elim hq
    | cont => exact False.elim hq
theorem neO (T : EqOf X.K C f) (F : FnOk X.prog X.w X.K X.mg X.base CX k f fd ps sp) (hr : Room (k + 1) X.A) (hb : Binds X.K fd ps []) (hx : Passes CX X.nox E) (hu : X.A.units + 64 < cLine) : OpR X (compareOp .NotEq) (rCmpO C sp E true) := by
  intro pins s σ H x y v u Q I rx ry h
  obtain ⟨a, dx, fs, b, dy, gs, rfl, rfl, ha, hb', hsp⟩ := h
  cases rx
  cases ry
  obtain ⟨mA, J, _⟩ := ins_get I.hok ha
  obtain ⟨mB, J', _⟩ := ins_get I.hok hb'
  obtain ⟨od, J, _⟩ := J.look
  obtain ⟨od', J', _⟩ := J'.look
  refine FQ.ne_own (tb := .ref C) (by omega) I.kIn J J'.type (by simp [PySem.W.notFirst]) T.ne T.ob T.eq T.fn ?_
  have hl := F.len _ _ _ _ hsp
  have r2 : Vals [V.ref a, V.ref b] [Value.ref a, Value.ref b] := .cons rfl (.cons rfl .nil)
  refine wpAny_call (codeAny_mono (F.run X.A.in1 X.stack s H ⟨[.ref a, .ref b], []⟩ [.ref a, .ref b] [.ref a, .ref b] _ E hr.in1 I.env0.in1 (by simpa using hb s [.ref a, .ref b] I.kIn (by simpa using hl)) r2 hsp) fun r s' hq => ?_)
  cases r with
  | error e => exact False.elim (hx pins σ H s e s' (I.wish _) hq)
  | ok fl =>
    cases fl with
    | ret w =>
      obtain ⟨z, H', I', rz, r, rfl, q⟩ := I.after hq
      cases rz
      exact ⟨r, rfl, .bl (!r), H', I', rfl, q⟩
    | next => exact False.elim hq
    | brk => exact False.elim hq
    | cont => exact False.elim hq
end
end W
def dCmpO (c : PySem.Str) (Φ : S → Option (D × S)) (neg : Bool) (a b : D) : Option D := if (a.isObj c && b.isObj c) = true then (callG 2 Φ [.d a, .d b] []).bind fun p => p.1.b.map fun r => .bl (if neg = true then !r else r) else none
theorem ok_empty {F H : Hp} (e : Ex F H) : Ok cl F H [] [] fun _ => 0 := ⟨e, rfl, fun i d g => by simp at g, fun i l d g => by simp at g, fun i j l m d f g => by simp at g, fun i d g => by simp at g⟩
instance ox_cmpO {c : PySem.Str} {Φ : S → Option (D × S)} {E : XK} {neg : Bool} : OpX cl (rCmpO (cl c) (spG cl 2 Φ) E neg) (dCmpO c Φ neg) := ⟨fun {F H x y dx dy d} e hx hy k Q q => by
  unfold dCmpO at k
  by_cases hc : (dx.isObj c && dy.isObj c) = true
  · rw [if_pos hc] at k
    obtain ⟨⟨d1, s1⟩, k1, k⟩ := bind_some k
    obtain ⟨r, k2, k⟩ := Option.map_eq_some_iff.mp k
    cases k
    obtain ⟨h1, h2⟩ := Bool.and_eq_true_iff.mp hc
    obtain ⟨ns, ds, rfl⟩ := isObj_eq h1
    obtain ⟨ns2, ds2, rfl⟩ := isObj_eq h2
    obtain ⟨a, dx, us, rfl, g1, _, _⟩ := vw_obj e (.inl hx)
    obtain ⟨b, dy, us2, rfl, g2, _, _⟩ := vw_obj e (.inl hy)
    refine ⟨a, dx, _, b, dy, _, rfl, rfl, g1, g2, callG_run (ok_empty e) (.d hx (.d hy .nil)) k1 fun v F2 H2 x2 h2 => ⟨r, bl_of h2 k2, q _ F2 H2 (x2.step.mono fun a o _ _ => ?_) (.bl _)⟩⟩
    obtain ⟨i, l, f, g, _⟩ := o
    simp at g
  · rw [if_neg hc] at k
    cases k⟩
def rOr2 (r r' : R2) : R2 := fun x y H Q => r x y H Q ∨ r' x y H Q
def dOr2 (f g : D → D → Option D) : D → D → Option D := fun a b => match f a b with
  | some d => some d
  | none => g a b
theorem W.or2 {X : Cx} {op : Value → Value → Sem Value} {r r' : R2} (h : OpR X op r) (h' : OpR X op r') : OpR X op (rOr2 r r') := .or h h'
instance ox_or2 {r r' : R2} {f g : D → D → Option D} [A : OpX cl r f] [B : OpX cl r' g] : OpX cl (rOr2 r r') (dOr2 f g) := ⟨fun {F H x y dx dy d} e hx hy k Q q => by
  unfold dOr2 at k
  split at k
  · rename_i d0 h0
    cases k
    exact .inl (A.run e hx hy h0 Q q)
  · exact .inr (B.run e hx hy k Q q)⟩
end Fr

set_option Elab.async false
set_option linter.all false
set_option maxRecDepth 100000
set_option maxHeartbeats 2000000
namespace Fr
open PySem PySem.Spec PyProof.Rows L2 Evl RZ
variable {cl : PySem.Str → Addr}
/-! ### sorted -/
def Srt (ps : List (V × PyData)) : List V := (ps.mergeSort (PySem.W.dataLe false (·.2))).map (·.1)
/-- data that can be sorted -/
structure Sbl (ds : List PyData) : Prop where
  al : PySem.W.AllAlike ds
  so : PySem.W.Sortable ds
  dp : ∀ d ∈ ds, d.depth ≤ 50
  few : ds.length ≤ sizeLine
theorem each_rel : ∀ {ps : List (V × PyData)} {us : List Value}, Vals (ps.map (·.1)) us → PySem.W.EachIs (fun (u : Value) (b : V × PyData) => RelV b.1 u) us ps
  | [], _, .nil => .nil
  | p :: ps, _, .cons r t => .cons r (each_rel t)
theorem rel_each : ∀ {ps : List (V × PyData)} {us : List Value}, PySem.W.EachIs (fun (u : Value) (b : V × PyData) => RelV b.1 u) us ps → Vals (ps.map (·.1)) us
  | _, _, .nil => .nil
  | _, _, .cons r t => .cons r (rel_each t)
theorem each_reads {X : Cx} {pins : List (Addr × Obj)} {σ : L2.St} {H : Hp} {s : Shared} {h2 : Heap} (I : Inv X pins σ H s) (kp : ∀ b o, s.heap.get? b = some o → h2.get? b = some o) : ∀ {ps : List (V × PyData)} {us : List Value}, Vals (ps.map (·.1)) us → (∀ p ∈ ps, Dp X.K H p.1 p.2) → PySem.W.EachIs (fun (u : Value) (b : V × PyData) => ∃ as, Reads h2 u b.2 as) us ps
  | [], _, .nil, _ => .nil
  | p :: ps, _, .cons r t, h => by
    obtain ⟨as, z⟩ := Dp.reads I p.2 p.1 _ (h p List.mem_cons_self) r
    exact .cons ⟨as, PyProof.Rows.Reads.keeps kp z⟩ (each_reads I kp t fun p m => h p (List.mem_cons_of_mem _ m))
section
variable {X : Cx} {pins : List (Addr × Obj)} {σ : L2.St} {H : Hp} {s : Shared} {Q : VK}
theorem sorted_gen {x : Value} (I : Inv X pins σ H s) (hu : X.A.units + 64 < cLine)
    (hcol : ∀ (E : Value → Shared → Prop) (R : List Value → Shared → Prop), (∀ h' tk us (ps : List (V × PyData)), (∀ b o, s.heap.get? b = some o → h'.get? b = some o) → Vals (ps.map (·.1)) us → (∀ p ∈ ps, Dp X.K H p.1 p.2) → Sbl (ps.map (·.2)) → (∀ q, H q = none → Q (.ref q) (upd H q (.lst (Srt ps)))) → R us { s with heap := h', toks := tk }) → wpAny (model X.prog X.w) X.A.in1 (collect x) R E s) :
    wpAny (model X.prog X.w) X.A (call (.builtin "sorted") [x]) (EP X pins σ Q) X.xe s := by
  refine Calls.call_function_entry kind_sorted plain_sorted entry_sorted (args_sorted1 _) ?_
  unfold Builtin.«sorted»
  refine wpAny_bind (m := checkCount "sorted" 1 1 _) (wpAny_pure (wpAny_bind (hcol _ _ fun h' tk us ps kp rv dp sb q => ?_)))
  have I1 : Inv X pins σ H { s with heap := h', toks := tk } := I.kept kp
  have len : us.length = ps.length := by rw [← rv.length, List.length_map]
  have few : us.length ≤ sizeLine := by rw [len]; have z := sb.few; rwa [List.length_map] at z
  refine wpAny_bind (wpAny_newList ?_ few)
  have oL : (h'.push (seqObj "list" us.toArray 0)).get? h'.objs.size = some (seqObj "list" us.toArray 0) := Heap.get?_push_size _ rfl
  change wpAny _ _ _ _ _ { s with heap := h'.push (seqObj "list" us.toArray 0), toks := tk }
  have old : ∀ b o, h'.get? b = some o → (PySem.W.sortingHeap (h'.push (seqObj "list" us.toArray 0)) h'.objs.size us).get? b = some o := fun b o e => PySem.W.sortingHeap_old (Nat.ne_of_lt (Heap.lt_size e)) (Heap.get?_push_of_some _ e)
  have er := each_reads (h2 := PySem.W.sortingHeap (h'.push (seqObj "list" us.toArray 0)) h'.objs.size us) I1 old rv dp
  refine wpAny_bind (wpAny_holding (wpAny_call_entry slot_list_sort ⟨_, oL, rfl⟩ entry_list_sort
    (PySem.W.list_sort_vals (s := { s with heap := h'.push (seqObj "list" us.toArray 0), toks := tk }) (κ := PySem.W.dataKind _ (ps.map (·.2))) oL (PySem.W.SortsAt.data (s := { s with heap := PySem.W.sortingHeap (h'.push (seqObj "list" us.toArray 0)) h'.objs.size us, toks := tk }) (PySem.W.each_map (R := fun v d => ∃ as, Reads (PySem.W.sortingHeap (h'.push (seqObj "list" us.toArray 0)) h'.objs.size us) v d as) (fun b : V × PyData => b.2) er) sb.al sb.so (fun d hd => by have z := sb.dp d hd; simp only [Around.in1_units] at *; omega)) few ⟨.none, rfl, ?_⟩)
    (args_list_sort _)))
  have out := PySem.W.sortVals_data false (each_rel rv) er sb.al
  have ol : (PySem.W.sortVals (PySem.W.dataKind (PySem.W.sortingHeap (h'.push (seqObj "list" us.toArray 0)) h'.objs.size us) (ps.map (·.2))) false us us).length = us.length := PySem.W.sortVals_length false rfl
  generalize PySem.W.sortVals (PySem.W.dataKind (PySem.W.sortingHeap (h'.push (seqObj "list" us.toArray 0)) h'.objs.size us) (ps.map (·.2))) false us us = res at out ol
  obtain ⟨c, hc⟩ := sortedHeap_at (vs := us) (out := res.toArray) oL
  have vo : Vals (Srt ps) res := rel_each out
  have kept : ∀ b o, h'.get? b = some o → (sortedHeap (h'.push (seqObj "list" us.toArray 0)) h'.objs.size us res.toArray).get? b = some o := fun b o e => by
    have lt := Heap.lt_size e
    rw [sortedHeap_old (Nat.ne_of_lt lt) (by rw [size_push']; exact Nat.lt_succ_of_lt lt)]
    exact Heap.get?_push_of_some _ e
  refine wpAny_pure ⟨_, rfl, .ref h'.objs.size, upd H h'.objs.size (.lst (Srt ps)), I1.laid (t' := tk) kept (Nat.le_refl _) ⟨?_, res, c, vo, hc⟩, rfl, q _ (I1.hok.fresh (Nat.le_refl _))⟩
  rw [vo.length, ol]
  exact few
end
end Fr

set_option Elab.async false
set_option linter.all false
set_option maxRecDepth 100000
set_option maxHeartbeats 2000000
namespace Fr
open PySem PySem.Spec PyProof.Rows L2 Evl RZ
variable {cl : PySem.Str → Addr}
def keyPy : Key → PyData
  | .inl i => .int i
  | .inr x => .str x
def tupPy (k : List Key) : PyData := .tuple (k.map keyPy)
theorem dp_key {K : PySem.W.Frag} {H : Hp} (k : Key) : Dp K H (kV k) (keyPy k) := by
  cases k with
  | inl i => exact .int i
  | inr x => exact .str x
theorem dp_keys {K : PySem.W.Frag} {H : Hp} : ∀ k : List Key, DpAll K H (k.map kV) (k.map keyPy)
  | [] => .nil
  | k :: ks => .cons (dp_key k) (dp_keys ks)
theorem dp_tup {K : PySem.W.Frag} {H : Hp} {b : Addr} {k : List Key} (h : H b = some (.tup (k.map kV))) : Dp K H (.ref b) (tupPy k) := .tup (st_of h) (dp_keys k)
/-- the argument of sorted: a list, a dict by keys -/
def SArg (K : PySem.W.Frag) (H : Hp) (a : Addr) (Z : List (V × PyData) → Prop) : Prop :=
  (∃ ps, SqL K H a (ps.map (·.1)) ∧ (∀ p ∈ ps, Dp K H p.1 p.2) ∧ Sbl (ps.map (·.2)) ∧ Z ps) ∨ ((∃ kvs : List (Key × V), Rd H a (.dK kvs) ∧ Sbl (kvs.map fun kv => keyPy kv.1) ∧ Z (kvs.map fun kv => (kV kv.1, keyPy kv.1))) ∨
    ∃ kvs : List (List Key × V), Rd H a (.dT kvs) ∧ Sbl (kvs.map fun kv => tupPy kv.1) ∧ ∀ bs : List (Addr × List Key), bs.map (·.2) = kvs.map (·.1) → (∀ p ∈ bs, H p.1 = some (.tup (p.2.map kV))) → Z (bs.map fun p => (.ref p.1, tupPy p.2)))
def rSortW (K : PySem.W.Frag) : List V → Hp → VK → Prop := fun vs H Q => ∃ a, vs = [.ref a] ∧ SArg K H a fun ps => ∀ q, H q = none → Q (.ref q) (upd H q (.lst (Srt ps)))
theorem items_eq {P : Nat → Value → Prop} {acc : Array Value} {out : List Value} (h : ItemsOf P acc out.length) (hP : ∀ j v, P j v → out[j]? = some v) : acc.toList = out := by
  apply List.ext_getElem?
  intro i
  by_cases lt : i < acc.size
  · have e := Array.getElem?_eq_getElem lt
    rw [Array.getElem?_toList, e, hP i _ (h.2 i _ e)]
  · rw [List.getElem?_eq_none (by rw [Array.length_toList]; omega), List.getElem?_eq_none (by have := h.1; omega)]
theorem kv_vals {X : Cx} {pins : List (Addr × Obj)} {σ : L2.St} {H : Hp} {s : Shared} : ∀ {kvs : List (Key × V)} {vs : List (Key × Value)}, KV kvs vs → ∀ {us : List Value}, us.length = vs.length → (∀ (i : Nat) (k : Key) (x u : Value), vs[i]? = some (k, x) → us[i]? = some u → keyIs k u = true) → Vals (kvs.map fun kv => kV kv.1) us
  | [], _, .nil, us, l, _ => by
    cases us with
    | nil => exact .nil
    | cons u us => cases l
  | kv :: kvs, v :: vs, .cons r t, us, l, h => by
    cases us with
    | nil => cases l
    | cons u us =>
      obtain ⟨k, x⟩ := v
      have z := h 0 k x u rfl rfl
      refine .cons ?_ (kv_vals (X := X) (pins := pins) (σ := σ) (H := H) (s := s) t (by simpa using l) fun i k x u e1 e2 => h (i + 1) k x u (by simpa using e1) (by simpa using e2))
      have ek : kv.1 = k := r.1
      show RelV (kV kv.1) u
      rw [ek]
      rcases keyIs_shape z with ⟨i, t, rfl, rfl⟩ | ⟨y, t, rfl, rfl⟩
      · exact ⟨t, rfl⟩
      · exact ⟨t, rfl⟩
theorem W.c_sorted {X : Cx} (K : PySem.W.Frag) (hu : X.A.units + 64 < cLine) (h : X.K = K := by rfl) (hc : X.calm = true := by rfl) : CallR X (.builtin "sorted") (rSortW K) := by
  subst h
  intro pins s σ H xs us Q I r h
  obtain ⟨a, rfl, h⟩ := h
  rw [Vals.ref1 r]
  rcases h with ⟨ps, hl, dp, sb, q⟩ | ⟨kvs, hr, sb, q⟩ | ⟨kvs, hr, sb, q⟩
  · obtain ⟨its, rv, pl, hz⟩ := I.list hl
    refine sorted_gen I hu fun E R fin => collect_list (vs := its) pl.isList (fin _ s.toks its ps (fun b o e => ?_) rv dp sb q) (by rw [← rv.length]; exact hz)
    have lt := Heap.lt_size e
    rw [Heap.get?_update_ne _ _ _ _ (Nat.ne_of_lt lt)]
    exact Heap.get?_push_of_some _ e
  · obtain ⟨z, lo, vs, rel, o, es, ep, h1, h2, h3, h4, h5, h6⟩ := dk_rd I.hok hr
    have sz : es.size = vs.length := by rw [← h5.length, Array.length_toList]
    refine sorted_gen I hu fun E R fin => PySem.W.kdu_collect (A := X.A.in1) (PySem.KdlSrc.rawDict (es := es) (ep := ep) lo) (I.ok.hd hc) ⟨o, h1, h2, h3⟩ (by rw [sz, ← rel.length]; exact z) fun h' tk acc kp it => fin h' tk acc.toList (kvs.map fun kv => (kV kv.1, keyPy kv.1)) kp ?_ (fun p hp => ?_) (by rw [List.map_map]; exact sb) q
    · rw [List.map_map]
      refine kv_vals (X := X) (pins := pins) (σ := σ) (H := H) (s := s) rel (by rw [Array.length_toList, it.1, sz]) fun i k x u e1 e2 => ?_
      obtain ⟨hi, rfl⟩ := it.2 i u (by rw [← Array.getElem?_toList]; exact e2)
      have z := h5.get? (i := i) (e := es[i]) (k := k) (v := x) (by rw [Array.getElem?_toList]; exact Array.getElem?_eq_getElem hi) e1
      exact z.1
    · obtain ⟨kv, _, rfl⟩ := List.mem_map.mp hp
      exact dp_key kv.1
  · obtain ⟨z, lo, ts, rel, o, es, ep, h1, h2, h3, h4, h5, h6⟩ := dt_rd I.hok hr
    have sz : es.size = ts.length := size_of_entries h4
    have keys : ∀ {l : List (List Key × V)} {m : List (List Key × Addr × Value)}, KT H l m → (m.map fun x => (x.2.1, x.1)).map (·.2) = l.map (·.1) ∧ ∀ p ∈ m.map fun x => (x.2.1, x.1), H p.1 = some (.tup (p.2.map kV)) := by
      intro l m q
      induction q with
      | nil => exact ⟨rfl, fun p z => nomatch z⟩
      | @cons x y l m hq t ih =>
        refine ⟨by rw [List.map_cons, List.map_cons, List.map_cons, ih.1, hq.1], fun p hp => ?_⟩
        rcases List.mem_cons.mp hp with rfl | hp
        · show H y.2.1 = some (.tup (y.1.map kV))
          rw [← hq.1]
          exact hq.2.1
        · exact ih.2 p hp
    obtain ⟨k1, k2⟩ := keys rel
    refine sorted_gen I hu fun E R fin => PySem.W.kdu_collect (A := X.A.in1) (PySem.KdlSrc.rawDict (es := es) (ep := ep) lo) (I.ok.hd hc) ⟨o, h1, h2, h3⟩ (by rw [sz, ← Paired.length rel]; exact z) fun h' tk acc kp it => fin h' tk acc.toList ((ts.map fun x => (x.2.1, x.1)).map fun p => (.ref p.1, tupPy p.2)) kp ?_ (fun p hp => ?_) ?_ (q _ k1 k2)
    · have e : acc.toList = ts.map fun x => Value.ref x.2.1 := by
        refine items_eq (P := fun i v => ∃ hi : i < es.size, v = es[i].key) (by rw [List.length_map, ← sz]; exact it) fun j v ⟨hj, ev⟩ => ?_
        subst ev
        have z := entry_at h4 j
        rw [Array.getElem?_eq_getElem hj] at z
        rw [List.getElem?_map]
        cases w : ts[j]? with
        | none => rw [w] at z; cases z
        | some x =>
          rw [w] at z
          have y : es[j] = entryOfKey (tupleKind (mixKind X.prog X.w)) x := Option.some.inj z
          rw [y]
          rfl
      rw [e, List.map_map, List.map_map]
      clear e keys k1 k2 q fin it h4 h5 h6 rel sz z
      induction ts with
      | nil => exact .nil
      | cons x ts ih => exact .cons rfl ih
    · obtain ⟨x, hx, rfl⟩ := List.mem_map.mp hp
      exact dp_tup (k2 x hx)
    · rw [List.map_map]
      have e : ((fun p : V × PyData => p.2) ∘ fun p : Addr × List Key => (V.ref p.1, tupPy p.2)) = tupPy ∘ fun p : Addr × List Key => p.2 := rfl
      rw [e, ← List.map_map, k1, List.map_map]
      exact sb
end Fr

set_option Elab.async false
set_option linter.all false
set_option maxRecDepth 100000
set_option maxHeartbeats 2000000
namespace Fr
open PySem PySem.Spec PyProof.Rows L2 Evl RZ
variable {cl : PySem.Str → Addr}
/-! ### a sort that the kernel runs -/
section
variable {α : Type}
def ins (le : α → α → Bool) (x : α) : List α → List α
  | [] => [x]
  | y :: t => if le x y = true then x :: y :: t else y :: ins le x t
def isort (le : α → α → Bool) : List α → List α
  | [] => []
  | x :: r => ins le x (isort le r)
variable {le : α → α → Bool}
theorem mem_ins {x z : α} : ∀ {t : List α}, z ∈ ins le x t → z = x ∨ z ∈ t
  | [], h => by
    simp [ins] at h
    exact .inl h
  | y :: t, h => by
    unfold ins at h
    split at h
    · rcases List.mem_cons.mp h with h | h
      · exact .inl h
      · exact .inr h
    · rcases List.mem_cons.mp h with h | h
      · exact .inr (h ▸ List.mem_cons_self)
      · rcases mem_ins h with h | h
        · exact .inl h
        · exact .inr (List.mem_cons_of_mem _ h)
theorem ins_sorted (T : PySem.W.TotalLe le) {x : α} : ∀ {t : List α}, t.Pairwise (fun a b => le a b = true) → (ins le x t).Pairwise fun a b => le a b = true
  | [], _ => List.pairwise_singleton _ _
  | y :: t, h => by
    obtain ⟨h1, h2⟩ := List.pairwise_cons.mp h
    unfold ins
    by_cases e : le x y = true
    · rw [if_pos e]
      refine List.pairwise_cons.mpr ⟨fun z hz => ?_, h⟩
      rcases List.mem_cons.mp hz with rfl | hz
      · exact e
      · exact T.trans _ _ _ e (h1 z hz)
    · rw [if_neg e]
      refine List.pairwise_cons.mpr ⟨fun z hz => ?_, ins_sorted T h2⟩
      rcases mem_ins hz with rfl | hz
      · rcases T.total y z with w | w
        · exact w
        · exact absurd w e
      · exact h1 z hz
theorem ins_filter (T : PySem.W.TotalLe le) {x c : α} : ∀ {t : List α}, (ins le x t).filter (PySem.W.sameRank le c) = (x :: t).filter (PySem.W.sameRank le c)
  | [] => rfl
  | y :: t => by
    unfold ins
    by_cases e : le x y = true
    · rw [if_pos e]
    · rw [if_neg e]
      have ih := ins_filter T (x := x) (c := c) (t := t)
      rw [List.filter_cons, ih]
      by_cases py : PySem.W.sameRank le c y = true
      · have px : PySem.W.sameRank le c x = false := by
          cases q : PySem.W.sameRank le c x with
          | false => rfl
          | true =>
            unfold PySem.W.sameRank at q py
            simp only [Bool.and_eq_true] at q py
            exact absurd (T.trans x c y (by first | exact q.2 | exact q.1) (by first | exact py.1 | exact py.2)) e
        rw [if_pos py, List.filter_cons_of_neg (by rw [px]; exact Bool.false_ne_true), List.filter_cons_of_neg (by rw [px]; exact Bool.false_ne_true), List.filter_cons_of_pos py]
      · rw [if_neg py]
        by_cases px : PySem.W.sameRank le c x = true
        · rw [List.filter_cons_of_pos px, List.filter_cons_of_pos px, List.filter_cons_of_neg py]
        · rw [List.filter_cons_of_neg px, List.filter_cons_of_neg px, List.filter_cons_of_neg py]
theorem isort_sorted (T : PySem.W.TotalLe le) : ∀ l : List α, (isort le l).Pairwise fun a b => le a b = true
  | [] => List.Pairwise.nil
  | x :: r => ins_sorted T (isort_sorted T r)
theorem isort_filter (T : PySem.W.TotalLe le) {c : α} : ∀ l : List α, (isort le l).filter (PySem.W.sameRank le c) = l.filter (PySem.W.sameRank le c)
  | [] => rfl
  | x :: r => by
    unfold isort
    rw [ins_filter T, List.filter_cons, List.filter_cons, isort_filter T r]
theorem isort_eq (T : PySem.W.TotalLe le) (l : List α) : isort le l = l.mergeSort le := PySem.W.sort_unique T (isort_sorted T l) fun c => isort_filter T l
end
/-! ### what sorted tells -/
def ordD (a b : D) : Bool := PySem.W.dataLe false D.py a b
def sblB (ds : List PyData) : Bool := (ds.all fun a => ds.all fun b => PySem.W.alike a b) && (((ds.all fun d => match d with
  | .tuple (_ :: _) => true
  | _ => false) || (ds.all fun d => match d with
  | .none => false
  | .tuple _ => false
  | _ => true)) && ((ds.all fun d => decide (d.depth ≤ 50)) && decide (ds.length ≤ 100000)))
theorem sbl_ok {ds : List PyData} (h : sblB ds = true) : Sbl ds := by
  unfold sblB at h
  obtain ⟨h1, h⟩ := Bool.and_eq_true_iff.mp h
  obtain ⟨h2, h⟩ := Bool.and_eq_true_iff.mp h
  obtain ⟨h3, h4⟩ := Bool.and_eq_true_iff.mp h
  refine ⟨fun a ha b hb => List.all_eq_true.mp (List.all_eq_true.mp h1 a ha) b hb, ?_, fun d hd => of_decide_eq_true (List.all_eq_true.mp h3 d hd), sz_of (of_decide_eq_true h4)⟩
  rcases Bool.or_eq_true_iff.mp h2 with h2 | h2
  · refine .inl fun d hd => ?_
    have z := List.all_eq_true.mp h2 d hd
    split at z
    · exact ⟨_, _, rfl⟩
    · cases z
  · refine .inr fun d hd => ?_
    have z := List.all_eq_true.mp h2 d hd
    split at z
    · cases z
    · cases z
    · rename_i n1 n2
      exact ⟨n1, n2⟩
def sortKeys : D → Option (List D)
  | .lst ds => some ds
  | .dk ks _ => some (ks.map kD)
  | .dt ks _ => some (ks.map fun l => .tup (l.map kD))
  | _ => none
def sortD (ds : List D) : Option D := if (plains ds && sblB (pys ds)) = true then some (.lst (isort ordD ds)) else none
def mSorted (a : M) : M := fun s => (a s).bind fun p => (sortKeys p.1).bind fun ds => (sortD ds).map fun d => (d, p.2)
theorem pys_map : ∀ ds : List D, pys ds = ds.map D.py
  | [] => by simp [pys]
  | d :: ds => by rw [pys, List.map_cons, pys_map ds]
theorem plains_all : ∀ {ds : List D}, plains ds = true → ∀ d ∈ ds, d.plain = true
  | [], _, d, h => nomatch h
  | a :: ds, h, d, m => by
    rw [plains, Bool.and_eq_true] at h
    rcases List.mem_cons.mp m with rfl | m
    · exact h.1
    · exact plains_all h.2 d m
theorem dx_pairs {F : Hp} : ∀ {l : List (V × D)}, (∀ p ∈ l, Dx cl F p.1 p.2) → DxAll cl F (l.map (·.1)) (l.map (·.2))
  | [], _ => .nil
  | p :: l, h => .cons (h p List.mem_cons_self) (dx_pairs fun q m => h q (List.mem_cons_of_mem _ m))
theorem pairs_dx {F : Hp} : ∀ {vs : List V} {ds : List D}, DxAll cl F vs ds → ∃ l : List (V × D), l.map (·.1) = vs ∧ l.map (·.2) = ds ∧ ∀ p ∈ l, Dx cl F p.1 p.2
  | _, _, .nil => ⟨[], rfl, rfl, fun p z => nomatch z⟩
  | v :: vs, d :: ds, .cons h a => by
    obtain ⟨l, h1, h2, h3⟩ := pairs_dx a
    refine ⟨(v, d) :: l, by rw [List.map_cons, h1], by rw [List.map_cons, h2], fun p m => ?_⟩
    rcases List.mem_cons.mp m with rfl | m
    · exact h
    · exact h3 p m
/-- the sorted values stand for the sorted data -/
theorem srt_dx {F : Hp} {l : List (V × D)} (h : ∀ p ∈ l, Dx cl F p.1 p.2) : DxAll cl F (Srt (l.map fun p => (p.1, p.2.py))) (isort ordD (l.map (·.2))) := by
  have T : PySem.W.TotalLe ordD := PySem.W.sortLe_total _ false _
  have e1 : Srt (l.map fun p => (p.1, p.2.py)) = (l.mergeSort (PySem.W.dataLe false fun p : V × D => p.2.py)).map (·.1) := by
    unfold Srt
    rw [← PySem.W.sort_maps (r := PySem.W.dataLe false fun p : V × D => p.2.py) (fun p : V × D => (p.1, p.2.py)) (fun a _ b _ => rfl), List.map_map]
    rfl
  have e2 : isort ordD (l.map (·.2)) = (l.mergeSort (PySem.W.dataLe false fun p : V × D => p.2.py)).map (·.2) := by
    rw [isort_eq T, ← PySem.W.sort_maps (r := PySem.W.dataLe false fun p : V × D => p.2.py) (fun p : V × D => p.2) (fun a _ b _ => rfl)]
  rw [e1, e2]
  exact dx_pairs fun p m => h p (List.mem_mergeSort.mp m)
theorem kD_py (k : Key) : (kD k).py = keyPy k := by
  cases k with
  | inl i => simp [kD, D.py, keyPy]
  | inr x => simp [kD, D.py, keyPy]
theorem kDs_py : ∀ l : List Key, pys (l.map kD) = l.map keyPy
  | [] => by simp [pys]
  | k :: l => by rw [List.map_cons, pys, kD_py, kDs_py l, List.map_cons]
theorem tup_py (l : List Key) : (D.tup (l.map kD)).py = tupPy l := by
  rw [D.py, kDs_py]
  rfl
/-- tuples that are keys become known -/
theorem tups_known {H : Hp} : ∀ {bs : List (Addr × List Key)} {F : Hp}, Ex F H → (∀ p ∈ bs, H p.1 = some (.tup (p.2.map kV)) ∧ p.2.all kOk = true) → ∃ F2, Step (fun _ => False) F H F2 H ∧ ∀ p ∈ bs, Dx cl F2 (.ref p.1) (.tup (p.2.map kD))
  | [], F, e, _ => ⟨F, .refl e, fun p z => nomatch z⟩
  | b :: bs, F, e, h => by
    obtain ⟨h1, h2⟩ := h b List.mem_cons_self
    obtain ⟨F1, st1, f1⟩ := tup_known e h1
    obtain ⟨F2, st2, k2⟩ := tups_known st1.exH fun p m => h p (List.mem_cons_of_mem _ m)
    refine ⟨F2, st1.trans st2, fun p m => ?_⟩
    rcases List.mem_cons.mp m with rfl | m
    · exact .tup (st2.ex _ _ f1) (kDs_dx h2)
    · exact k2 p m
instance n_sorted {K : PySem.W.Frag} {ta : TE} {ma : M} [A : EvX cl ta ma] : EvN cl (tCB (rSortW K) (tCons ta tNil)) (mSorted ma) := ⟨fun {F H σ s ad d s'} k e Q q => by
  obtain ⟨⟨d0, s1⟩, e1, e⟩ := bind_some e
  obtain ⟨ds, e2, e⟩ := bind_some e
  obtain ⟨r, e3, e⟩ := Option.map_eq_some_iff.mp e
  cases e
  obtain ⟨hc, rfl⟩ := cond_some e3
  obtain ⟨hp, hb⟩ := Bool.and_eq_true_iff.mp hc
  have sb := sbl_ok hb
  refine A.run k e1 _ fun v F1 H1 x1 h1 => ?_
  have fin : ∀ {F2 : Hp} {p : Addr} {l : List (V × D)}, Step (fun _ => False) F1 H1 F2 H1 → (∀ p ∈ l, Dx cl F2 p.1 p.2) → l.map (·.2) = ds → H1 p = none → Q (.ref p) (upd H1 p (.lst (Srt (l.map fun p => (p.1, p.2.py))))) := fun {F2 p l} st hl el hp => by
    have x2 := x1.trans (.step0 x1.ok st)
    have st2 : Step (fun _ => False) F2 H1 F2 (upd H1 p (.lst (Srt (l.map fun p => (p.1, p.2.py))))) := .newM x2.ok.ex hp
    exact q p _ _ (back_none x1 hp) (ex_none x2.ok.ex hp) (fun a o z => (own_some x2.ok o).1 (z ▸ hp)) (x2.trans (.step0 x2.ok st2)) ⟨_, upd_same, by rw [← el]; exact srt_dx hl⟩
  have pl := plains_all hp
  cases h1 with
  | @lst a xs es ha da =>
    cases e2
    obtain ⟨l, g1, g2, g3⟩ := pairs_dx da
    refine ⟨a, rfl, .inl ⟨l.map fun p => (p.1, p.2.py), ?_, fun p hp => ?_, ?_, fun p hp => fin (.refl x1.ok.ex) g3 g2 hp⟩⟩
    · rw [List.map_map]
      have z : ((fun p : V × PyData => p.1) ∘ fun p : V × D => (p.1, p.2.py)) = fun p : V × D => p.1 := rfl
      rw [z, g1]
      exact sq_of (x1.ok.ex _ _ ha)
    · obtain ⟨y, m, rfl⟩ := List.mem_map.mp hp
      exact ((g3 y m).mono x1.ok.ex).dp (pl _ (by rw [← g2]; exact List.mem_map.mpr ⟨y, m, rfl⟩))
    · rw [List.map_map]
      have z : ((fun p : V × PyData => p.2) ∘ fun p : V × D => (p.1, p.2.py)) = D.py ∘ fun p : V × D => p.2 := rfl
      rw [z, ← List.map_map, g2, ← pys_map]
      exact sb
  | @dk a ob ks us es ha l da =>
    cases e2
    have z1 : ((ks.zip us).map fun kv => keyPy kv.1) = pys (ks.map kD) := by
      rw [kDs_py]
      calc ((ks.zip us).map fun kv => keyPy kv.1) = ((ks.zip us).map Prod.fst).map keyPy := by rw [List.map_map]; rfl
        _ = ks.map keyPy := by rw [List.map_fst_zip (by have := l.1; omega)]
    have z2 : ((ks.zip us).map fun kv => (kV kv.1, keyPy kv.1)) = (ks.map fun k => (kV k, kD k)).map fun p => (p.1, p.2.py) := by
      calc ((ks.zip us).map fun kv => (kV kv.1, keyPy kv.1)) = ((ks.zip us).map Prod.fst).map fun k => (kV k, keyPy k) := by rw [List.map_map]; rfl
        _ = ks.map fun k => (kV k, keyPy k) := by rw [List.map_fst_zip (by have := l.1; omega)]
        _ = _ := by rw [List.map_map]; apply List.map_congr_left; intro k _; show _ = (kV k, (kD k).py); rw [kD_py]
    refine ⟨a, rfl, .inr (.inl ⟨ks.zip us, .inr ⟨ob, x1.ok.ex _ _ ha⟩, by rw [z1]; exact sb, fun p hp => ?_⟩)⟩
    rw [z2]
    refine fin (.refl x1.ok.ex) (fun y m => ?_) (by rw [List.map_map]; rfl) hp
    obtain ⟨k, hk, rfl⟩ := List.mem_map.mp m
    exact kD_dx (List.all_eq_true.mp l.2 _ hk)
  | @dt a ob ks us es ha l da =>
    cases e2
    have z0 : (ks.zip us).map (·.1) = ks := List.map_fst_zip (by have := l.1; omega)
    have z1 : ((ks.zip us).map fun kv => tupPy kv.1) = pys (ks.map fun l => .tup (l.map kD)) := by
      rw [pys_map, List.map_map]
      calc ((ks.zip us).map fun kv => tupPy kv.1) = ((ks.zip us).map Prod.fst).map tupPy := by rw [List.map_map]; rfl
        _ = ks.map tupPy := by rw [z0]
        _ = _ := by apply List.map_congr_left; intro k _; exact (tup_py k).symm
    refine ⟨a, rfl, .inr (.inr ⟨ks.zip us, .inr ⟨ob, x1.ok.ex _ _ ha⟩, by rw [z1]; exact sb, fun bs hbs hH p hp => ?_⟩)⟩
    rw [z0] at hbs
    obtain ⟨F2, st, kn⟩ := tups_known (cl := cl) (bs := bs) x1.ok.ex fun y m => ⟨hH y m, List.all_eq_true.mp l.2 _ (by rw [← hbs]; exact List.mem_map.mpr ⟨y, m, rfl⟩)⟩
    have z2 : (bs.map fun p => (V.ref p.1, tupPy p.2)) = (bs.map fun p => (V.ref p.1, D.tup (p.2.map kD))).map fun p => (p.1, p.2.py) := by
      rw [List.map_map]
      apply List.map_congr_left
      intro y _
      show _ = (V.ref y.1, (D.tup (y.2.map kD)).py)
      rw [tup_py]
    rw [z2]
    refine fin st (fun y m => ?_) ?_ hp
    · obtain ⟨z, hz, rfl⟩ := List.mem_map.mp m
      exact kn z hz
    · rw [List.map_map, ← hbs, List.map_map]
      rfl
  | _ => cases e2⟩
instance i_sorted {K : PySem.W.Frag} {ta : TE} {ma : M} [A : EvX cl ta ma] : EvX cl (tCB (rSortW K) (tCons ta tNil)) (mSorted ma) := EvN.toX fun {s d s'} e => by
  obtain ⟨p, _, e⟩ := bind_some e
  obtain ⟨ds, _, e⟩ := bind_some e
  obtain ⟨r, e3, e⟩ := Option.map_eq_some_iff.mp e
  cases e
  obtain ⟨_, rfl⟩ := cond_some e3
  exact ⟨_, rfl⟩
end Fr

set_option Elab.async false
set_option linter.all false
set_option maxRecDepth 100000
set_option maxHeartbeats 2000000
namespace L2
open PySem PySem.Spec PyProof.Rows
/-! ### dict comprehensions whose keys are tuples (or ints and texts) -/
theorem dput_set {X : Cx} {pins : List (Addr × Obj)} {σ : St} {H H' : Hp} {s : Shared} {a : Addr} {y v : V} {u r : Value} {E : Value → Shared → Prop} {Q : Unit → Shared → Prop} (hu : X.A.units < cLine) (I : Inv X pins σ H s) (g : DPut H a y v H') (ry : RelV y u) (rv : RelV v r) (h : ∀ s', Inv X pins σ H' s' → Q () s') :
    wpAny (model X.prog X.w) X.A (dictSet a u r) Q E s := by
  rcases g with ⟨kvs, k, e, rfl, l, rfl⟩ | ⟨kvs, k, b, e, rfl, eb, l, rfl⟩
  · exact d_dictSet I e l ry rv h
  · cases (show u = Value.ref b from ry)
    obtain ⟨z, hd, xs, rel, dd⟩ := dt_of I.hok e
    have hl : (putK kvs k v).length ≤ sizeLine := Nat.le_trans (length_putK kvs k v) l
    refine wpAny_dictSet_heap (hsz := by rw [← Paired.length rel]; exact z) (knd := tupleKind (mixKind X.prog X.w)) hu (key_of I.hok eb) dd fun h' dd' hs => h _ ?_
    obtain ⟨q, es, ep, h1, h2, h3, h4, _, h5⟩ := dd'
    exact d_write I (by rw [e]; exact True.intro) hs ⟨q, h1⟩ ⟨hl, hd, _, (rel.put k eb rv).keeps fun c ys ec => by rw [upd_ne (ne_of ec e fun z => nomatch z)]; exact ec, q, es, ep, h1, h2, h3, h4, h5⟩
/-- the empty dict at its start: its keys are tuples where b -/
def d0 (b : Bool) : HO := if b = true then .dT [] else .dK []
def tDcG (b0 : Bool) (wi : TI) (g : TG) (tt : TT) (tk tv : TE) (vs : List Nat) : TE := fun σ H Q => wi σ H fun J H1 => ∀ D, H1 D = none → ∃ W : Nat → Nat → Hp → Prop, (∃ m, W 0 m (upd H1 D (d0 b0))) ∧ ∀ i m H, W i m H →
  (J.stop i H ∧ Q (.ref D) H) ∨ (J.go i H ∧ ∃ Nx : Hp → Prop, (∀ H', Nx H' → ∃ m', m' < m ∧ W (i + 1) m' H') ∧ ∀ x H', J.yld i H x H' → g x (wipe σ vs) H' fun σ2 H2 => wipe σ2 vs = wipe σ vs ∧ tt σ2 H2 fun b H3 =>
    if b = true then tk σ2 H3 fun y H4 => tv σ2 H4 fun z H5 => ∃ H6, DPut H5 D y z H6 ∧ Nx H6 else Nx H3)
section
variable {X : Cx}
theorem d0_ok {P : Program} {w : World} {H : Hp} (b : Bool) (h : Heap) (hb : sysModules < h.objs.size) : ObjOk P w H (h.push { cls := .type "dict", data := .dict #[] }) h.objs.size (d0 b) := by
  cases b
  · exact dk_empty h hb
  · exact dt_empty h hb
theorem dcG {kx vx tg iter : Expr} {ifs : List Expr} {scope : Scope} {own : List (Str × Nat)} {pos : Pos} {wi : TI} {g : TG} {tt : TT} {tk tv : TE} (b0 : Bool) (hu : X.A.units < cLine) (hc : X.calm = true) (hN : X.N.Nodup) (hi : PI X tg iter wi) (ok : BlkOk X.N X.env.scope scope own)
    (hg : ∀ (s : Shared) (H : Hp) (C : Addr) (cl : List (Str × Addr)) (fp : List Addr), PG (X.blk s H scope (compEnvC scope cl C X.env) fp) tg g) (ht : ∀ (s : Shared) (H : Hp) (C : Addr) (cl : List (Str × Addr)) (fp : List Addr), PTs (X.blk s H scope (compEnvC scope cl C X.env) fp) ifs tt) (hk : ∀ (s : Shared) (H : Hp) (C : Addr) (cl : List (Str × Addr)) (fp : List Addr), PE (X.blk s H scope (compEnvC scope cl C X.env) fp) kx tk)
    (he : ∀ (s : Shared) (H : Hp) (C : Addr) (cl : List (Str × Addr)) (fp : List Addr), PE (X.blk s H scope (compEnvC scope cl C X.env) fp) vx tv) (hs : ∀ x, foldedSetIterable iter X.env x = pure x := by intro _; rfl) :
    PE X (.DictComp kx vx [⟨tg, iter, ifs, 0⟩] scope pos) (tDcG b0 wi g tt tk tv (own.map (·.2))) := ⟨fun pins s σ H Q I h => by
  rw [arm_eval_DictComp]
  have hfree : ∀ y ∈ scope.names, y.2 = .free → ∃ c, X.env.cells.lookup y.1 = some c := fun y hy e => (ok.free y hy e).elim (fun k => I.ok.has _ (.inl k)) fun k => I.ok.has _ (.inr k)
  refine wpAny_comprehension_free (use := none) rfl hs (closure_ok hfree) ok.kind (fun y hy e => by rw [ok.uniq y hy, e]) (thn (hi.run pins s σ H _ I h) fun xv s1 hx => thn hx fun itv s2 ⟨it, fp, tn, J, H2, e2, I2, T, st2, f2, q⟩ => ?_)
  cases e2
  refine wpAny_newObj_type (newEnv_comp ?_)
  generalize eD : s2.heap.objs.size = D
  obtain ⟨W, ⟨m0, w0⟩, turn⟩ := q D (I2.hok.fresh (Nat.le_of_eq eD))
  generalize e3 : ({ s2 with heap := s2.heap.push { cls := .type "dict", data := .dict #[] } } : Shared) = s3
  have h3 : s3.heap = s2.heap.push { cls := .type "dict", data := .dict #[] } := e3 ▸ rfl
  have I3 : Inv X pins σ (upd H2 D (d0 b0)) s3 := e3 ▸ I2.laid (t' := s2.toks) (fun b o e => Heap.get?_push_of_some _ e) (Nat.le_of_eq eD) (eD ▸ d0_ok b0 s2.heap I2.big)
  have f3 : ∀ b ∈ fp, FpOk X pins (upd H2 D (d0 b0)) b ∧ b < s3.heap.objs.size := fun b hb => by
    obtain ⟨o, eo, _⟩ := T.obj _ _ st2 b hb
    have lt : b < s2.heap.objs.size := Heap.lt_size eo
    exact ⟨⟨by rw [upd_ne (eD ▸ Nat.ne_of_lt lt)]; exact (f2 b hb).1, (f2 b hb).2⟩, by rw [h3, Heap.size_push]; exact Nat.lt_succ_of_lt lt⟩
  have st3 : tn 0 s3.heap := T.keep _ _ _ st2 fun b _ o e => h3 ▸ Heap.get?_push_of_some _ e
  have I4 := block_start I3 ok hN f3
  have nfp : ∀ b ∈ fp, (upd H2 D (d0 b0)) b = none := fun b hb => (f3 b hb).1.1
  generalize eH : upd H2 D (d0 b0) = H3 at I3 I4 f3 w0 nfp
  show codeAny _ _ (.compStart (.DictComp kx vx [⟨tg, iter, ifs, 0⟩] scope pos) 0 (.ref it) (.ref D) (compEnvC scope (cellsFrom (s3.heap.objs.size + 1) scope.names (cloFrom X.env.cells scope.names [])) s3.heap.objs.size X.env)) (compPost (model X.prog X.w) X.A X.xe none _ (.ref D) s3.heap.objs.size) { s3 with heap := pushCells (s3.heap.push { cls := .type "dict", data := .dict #[] }) scope.names }
  have pg := hg s3 H3 s3.heap.objs.size (cellsFrom (s3.heap.objs.size + 1) scope.names (cloFrom X.env.cells scope.names [])) fp
  have pt := ht s3 H3 s3.heap.objs.size (cellsFrom (s3.heap.objs.size + 1) scope.names (cloFrom X.env.cells scope.names [])) fp
  have pk := hk s3 H3 s3.heap.objs.size (cellsFrom (s3.heap.objs.size + 1) scope.names (cloFrom X.env.cells scope.names [])) fp
  have pv := he s3 H3 s3.heap.objs.size (cellsFrom (s3.heap.objs.size + 1) scope.names (cloFrom X.env.cells scope.names [])) fp
  generalize eC : compEnvC scope (cellsFrom (s3.heap.objs.size + 1) scope.names (cloFrom X.env.cells scope.names [])) s3.heap.objs.size X.env = B at I4 pg pt pk pv ⊢
  have cL : B.locals = s3.heap.objs.size := eC ▸ rfl
  generalize e4 : ({ s3 with heap := pushCells (s3.heap.push { cls := .type "dict", data := .dict #[] }) scope.names } : Shared) = s4 at I4 ⊢
  have st4 : tn 0 s4.heap := T.keep _ _ _ st3 fun b _ o e => e4 ▸ pushCells_keeps _ _ _ _ (Heap.get?_push_of_some _ e)
  have stay : ∀ {σ' : St} {H' : Hp} {s' : Shared}, Inv (X.blk s3 H3 scope B fp) [] σ' H' s' → (∀ b ∈ fp, H' b = none) → ∀ b ∈ fp, FpOk (X.blk s3 H3 scope B fp) [] H' b := fun {σ' H' s'} J' hn b hb =>
    ⟨hn b hb, (J'.ok.exf b hb).1, J'.ok.exfs b hb, .inl hb, fun x c e => (J'.ok.exf b hb).2 x c e, fun p hp => absurd (show p ∈ ([] : List (Addr × Obj)) ++ [] from hp) (by simp)⟩
  refine (fun loop => codeAny_compStart_dict loop (T.self X.A 0 _ _ _ st4 loop)) (compLoop_anyD (fun n s' => ∃ i H', Inv (X.blk s3 H3 scope B fp) [] (wipe σ (own.map (·.2))) H' s' ∧ tn i s'.heap ∧ (∀ b ∈ fp, H' b = none) ∧ W i n H') ?_ m0 ⟨0, H3, I4, st4, nfp, w0⟩)
  rintro n s5 ⟨i, H5, I5, st5, n5, w5⟩
  rcases turn i n H5 w5 with ⟨stop, qq⟩ | ⟨go, Nx, hNx, step⟩
  · refine thnF (T.done (X.blk s3 H3 scope B fp) rfl rfl rfl hc i [] s5 _ H5 (fun _ _ => False) I5 (stay I5 n5) st5 stop) fun r s6 ⟨hr, I6⟩ => ?_
    subst hr
    have I7 : Inv X pins σ H5 s6 := I3.call' (ch := fp) I6.os I6.base I6.hok I6.bare fun b hb => let z := (f3 b hb).1.2; ⟨z.2.2.1, z.1, z.2.2.2.1, z.2.2.2.2⟩
    have nC : H5 B.locals = none := I6.free
    obtain ⟨m, hn, _⟩ := I6.loc
    have hn : s6.heap.Ns B.locals m := hn
    rw [cL] at hn nC
    obtain ⟨f0, f1, f2', f3', f4, f5⟩ := I3.fpOk (Nat.le_refl _) nC
    exact ⟨m, hn, fun h'' sb => ⟨.ref D, H5, I7.turned (t' := s6.toks) (fun b o hb e => (sb.2 b hb).trans e) f0 f1 f3' f4 f5, rfl, qq⟩⟩
  · refine thnF (T.item (X.blk s3 H3 scope B fp) rfl rfl rfl hc i [] s5 _ H5 (fun _ _ => False) I5 (stay I5 n5) st5 go) fun r s6 ⟨u, hr, h6⟩ => ?_
    subst hr
    refine thnF h6 fun _ s7 ⟨x, H7, I7, r7, y7, st7, n7⟩ => thnF (pg.run _ s7 _ H7 x u _ (I7.pinned (stay I7 n7) (T.obj _ _ st7)) r7 (step x H7 y7)) fun _ s8 ⟨σ8, H8, I8, hw8, q8⟩ => thnF (pt.run _ s8 σ8 H8 _ I8 q8) fun b s9 ⟨H9, I9, q9⟩ => ?_
    have fin : ∀ {s' : Shared} {H' : Hp}, Inv (X.blk s3 H3 scope B fp) ([] ++ pinsAt fp s7.heap) σ8 H' s' → Nx H' → ∃ m, m < n ∧ ∃ i H', Inv (X.blk s3 H3 scope B fp) [] (wipe σ (own.map (·.2))) H' s' ∧ tn i s'.heap ∧ (∀ b ∈ fp, H' b = none) ∧ W i m H' := fun {s' H'} J' nx => by
      obtain ⟨m', hm, w'⟩ := hNx H' nx
      have pin' : ∀ b ∈ fp, ∀ o, s7.heap.get? b = some o → s'.heap.get? b = some o ∧ H' b = none := fun b hb o e => let z := J'.pin (b, o) (List.mem_append_right _ (List.mem_append_right _ (mem_pinsAt hb e))); ⟨z.1, z.2.1⟩
      exact ⟨m', hm, i + 1, H', (J'.unpinned (pins := [])).weak (by rw [← hw8, wipe_length]) (fun j v e => (wipe_some (hw8 ▸ e)).1), T.keep _ _ _ st7 fun b hb o e => (pin' b hb o e).1, fun b hb => let ⟨o, e, _⟩ := T.obj _ _ st7 b hb; (pin' b hb o e).2, w'⟩
    cases b with
    | false => exact fin I9 q9
    | true =>
      refine thnF (pk.run _ s9 σ8 H9 _ I9 q9) fun z s10 ⟨yk, H10, I10, r10, q10⟩ => thnF (pv.run _ s10 σ8 H10 _ I10 q10) fun z2 s11 ⟨yv, H11, I11, r11, H12, hp, nx⟩ => ?_
      exact dput_set (X := X.blk s3 H3 scope B fp) hu I11 hp r10 r11 fun s12 I12 => fin I12 nx⟩
end
end L2

set_option Elab.async false
set_option linter.all false
set_option maxRecDepth 100000
set_option maxHeartbeats 2000000
namespace Fr
open PySem PySem.Spec PyProof.Rows L2 Evl RZ
variable {cl : PySem.Str → Addr}
/-! ### dict comprehensions at the level of data -/
/-- within a comprehension whose thing grows at L: from (F0, H0, sw) on -/
structure GI (cl : PySem.Str → Addr) (F0 H0 : Hp) (sw : S) (ad : Nat → Addr) (L : Addr) (F H : Hp) (σ : L2.St) (s : S) (c : D) : Prop where
  ok : Ok cl F H σ s ad
  st : Step (fun a => own sw ad a ∨ a = L) F0 H0 F H
  sub : ∀ a, own s ad a → own sw ad a ∨ H0 a = none
  pms : ∀ (i : Nat) (d : D), sw[i]? = some (Sl.pm d) → ∃ d', s[i]? = some (Sl.pm d')
  no : ¬ own sw ad L ∧ H0 L ≠ none
  fD : F L = none
  hD : Cell cl F (H L) c
section
variable {F0 H0 F H F2 H2 : Hp} {sw s s2 : S} {ad : Nat → Addr} {L : Addr} {σ σ2 : L2.St} {c c2 : D}
theorem GI.notL (x : GI cl F0 H0 sw ad L F H σ s c) : ¬ own s ad L := fun o => by
  rcases x.sub _ o with z | z
  · exact x.no.1 z
  · exact x.no.2 z
theorem GI.po (x : GI cl F0 H0 sw ad L F H σ s c) (y : Po cl F H s ad F2 H2 σ2 s2 ad) : GI cl F0 H0 sw ad L F2 H2 σ2 s2 c := by
  obtain ⟨w1, w2⟩ := y.step.2.2 L x.hD.nn
  obtain ⟨w3, w4⟩ := w2 x.fD x.notL
  refine ⟨y.ok, step_po x.st x.sub y, sub_po x.st x.sub y, fun i d h => ?_, x.no, w3 x.hD.nt, by rw [w4]; exact x.hD.mono y.step.ex⟩
  obtain ⟨d1, h1⟩ := x.pms i d h
  exact (y.pms i d1 h1).2
theorem GI.wipe (x : GI cl F0 H0 sw ad L F H σ s c) {vs : List Nat} (hv : ∀ (i : Nat) (d : D), sw[i]? = some (Sl.pm d) → i ∉ vs) : GI cl F0 H0 sw ad L F H (wipe σ vs) (wipeS s vs) c := by
  refine ⟨x.ok.wipe, x.st, fun a o => x.sub a (own_wipe o), fun i d h => ?_, x.no, x.fD, x.hD⟩
  obtain ⟨d1, h1⟩ := x.pms i d h
  exact ⟨d1, by rw [wipeS_out (hv i d h)]; exact h1⟩
theorem GI.put (x : GI cl F0 H0 sw ad L F H σ s c) {o : HO} (h : Cell cl F (some o) c2) : GI cl F0 H0 sw ad L F (upd H L o) σ s c2 := by
  have st : Step (fun a => a = L) F H F (upd H L o) := .write x.ok.ex rfl x.fD
  exact ⟨x.ok.step st (fun a o z => x.notL (z ▸ o)) (fun a od u hz z => x.hD.nf (z ▸ hz)), x.st.trans (.write x.ok.ex (.inr rfl) x.fD), x.sub, x.pms, x.no, x.fD, by rw [upd_same]; exact h⟩
end
theorem gi_end {F H F1 H1 F' H' : Hp} {σ : L2.St} {s s1 sE : S} {ad : Nat → Addr} {Dl : Addr} {vs : List Nat} {o0 : HO} {c : D} (k : Ok cl F H σ s ad) (x1 : Po cl F H s ad F1 H1 σ s1 ad) (hD : H1 Dl = none) (hno : noOwn s1 vs = true) (nD : ∀ a, own s1 ad a → a ≠ Dl)
    (x : GI cl F1 (upd H1 Dl o0) (wipeS s1 vs) ad Dl F' H' (wipe σ vs) sE c) : H Dl = none ∧ (∀ a, own (backS s1 sE vs) ad a → a ≠ Dl) ∧ Po cl F H s ad F' H' σ (backS s1 sE vs) ad := by
  have p1 := x.ok
  have p2 := x.st
  have p3 := x.sub
  have p4 := x.pms
  have hn : H Dl = none := back_none x1 hD
  have slot : ∀ {j : Nat} {l : Sl} {d : D}, (backS s1 sE vs)[j]? = some l → l.cell = some d → sE[j]? = some l ∧ j ∉ vs := fun {j l d} g c => by
    rcases backS_some g with ⟨z1, z2⟩ | ⟨z1, z2⟩
    · have b := List.all_eq_true.mp hno j z1
      rw [z2] at b
      cases l <;> first | (cases c; done) | (cases b; done)
    · refine ⟨z1, fun z => ?_⟩
      have n1 := z2 z
      have l1 : s1.length = sE.length := by
        have q1 := p1.len
        rw [wipe_len, x1.ok.len] at q1
        exact q1
      have z3 := (List.getElem?_eq_some_iff.mp z1).1
      have z4 := List.getElem?_eq_none_iff.mp n1
      omega
  have stA : Step (own s ad) F H F' H' := by
    have a1 : Step (own s ad) F H F1 (upd H1 Dl o0) := x1.step.trans (.newM x1.ok.ex hD)
    refine step_trans2 a1 p2 fun a h no o => ?_
    rcases o with o | o
    · rcases x1.sub a (own_wipe o) with z | z
      · exact no z
      · exact h z
    · exact h (o ▸ hn)
  refine ⟨hn, fun a o z => ?_, ⟨stA, ?_, fun a o => ?_, fun j d0 g => ?_⟩⟩
  · obtain ⟨j, l, d, g, c, rfl⟩ := o
    obtain ⟨g2, _⟩ := slot g c
    rcases p3 _ ⟨j, l, d, g2, c, rfl⟩ with y | y
    · exact nD _ (own_wipe y) z
    · rw [z, upd_same] at y
      cases y
  · refine ⟨p1.ex, ?_, fun j d g => ?_, fun j l d g c => ?_, fun j j2 l m d e2 g c g2 c2 ne => ?_, fun j d g => ?_⟩
    · rw [backS_len]
      have q1 := p1.len
      rw [wipe_len] at q1
      exact q1
    · rcases backS_some g with ⟨z1, z2⟩ | ⟨z1, z2⟩
      · obtain ⟨v, h1, h2⟩ := x1.ok.fz j d z2
        exact ⟨v, h1, h2.mono p2.ex⟩
      · obtain ⟨v, h1, h2⟩ := p1.fz j d z1
        by_cases hv : j ∈ vs
        · have q1 := (List.getElem?_eq_some_iff.mp h1).1
          rw [wipe_len] at q1
          rw [wipe_in hv q1] at h1
          cases h1
        · rw [wipe_out hv] at h1
          exact ⟨v, h1, h2⟩
    · obtain ⟨g2, nv⟩ := slot g c
      obtain ⟨h1, h2, h3⟩ := p1.ow j l d g2 c
      rw [wipe_out nv] at h1
      exact ⟨h1, h2, h3⟩
    · obtain ⟨g3, _⟩ := slot g c
      obtain ⟨g4, _⟩ := slot g2 c2
      exact p1.ne j j2 l m d e2 g3 c g4 c2 ne
    · rcases backS_some g with ⟨z1, z2⟩ | ⟨z1, z2⟩
      · have b := List.all_eq_true.mp hno j z1
        rw [z2] at b
        cases b
      · obtain ⟨h1, h2, h3⟩ := p1.rb j d z1
        by_cases hv : j ∈ vs
        · have q1 := (List.getElem?_eq_some_iff.mp h1).1
          rw [wipe_len] at q1
          rw [wipe_in hv q1] at h1
          cases h1
        · rw [wipe_out hv] at h1
          exact ⟨h1, h2, h3⟩
  · obtain ⟨j, l, d, g, c, rfl⟩ := o
    obtain ⟨g2, _⟩ := slot g c
    rcases p3 _ ⟨j, l, d, g2, c, rfl⟩ with y | y
    · exact x1.sub _ (own_wipe y)
    · refine .inr ?_
      cases z : H (ad j) with
      | none => rfl
      | some o =>
        have w1 := (x1.step.2.2 (ad j) (by rw [z]; exact fun z => nomatch z)).1
        have ne : ad j ≠ Dl := fun zz => by
          rw [zz, upd_same] at y
          cases y
        rw [upd_ne ne] at y
        exact absurd y w1
  · obtain ⟨y1, d1, y2⟩ := x1.pms j d0 g
    refine ⟨rfl, ?_⟩
    have nv : j ∉ vs := fun hv => by
      have b := List.all_eq_true.mp hno j hv
      rw [y2] at b
      cases b
    obtain ⟨d2, y3⟩ := p4 j d1 (by rw [wipeS_out nv]; exact y2)
    refine ⟨d2, ?_⟩
    have gen : ∀ vs : List Nat, j ∉ vs → (backS s1 sE vs)[j]? = sE[j]? := by
      intro vs
      induction vs with
      | nil => exact fun _ => rfl
      | cons v vs ih =>
        intro h
        have ne : v ≠ j := fun z => h (z ▸ List.mem_cons_self ..)
        unfold backS
        split
        · rw [List.getElem?_set_ne ne]
          exact ih fun z => h (List.mem_cons_of_mem _ z)
        · exact ih fun z => h (List.mem_cons_of_mem _ z)
    rw [gen vs nv]
    exact y3
theorem gi_kp {F H F' H' : Hp} {σ : L2.St} {s : S} {ad : Nat → Addr} {vs : List Nat} {D : Addr} {o0 : HO} (k : Ok cl F H σ s ad) (hD : H D = none) (p : Step (fun a => own (wipeS s vs) ad a ∨ a = D) F (upd H D o0) F' H') : Kp F H F' H' :=
  ⟨p.1, p.2.1, fun a od u g f => by
    have ne : a ≠ D := fun z => by
      rw [z, hD] at g
      cases g
    have g2 : upd H D o0 a = some (.frz od u) := by
      rw [upd_ne ne]
      exact g
    rw [((p.2.2 a (by rw [g2]; exact fun z => nomatch z)).2 f fun o => ?_).2]
    · exact g2
    · rcases o with o | o
      · exact k.nfz g (own_wipe o)
      · exact ne o⟩

/-- d[k] = v at the level of data -/
theorem cell_put {F H : Hp} {L : Addr} {c k d c2 : D} {y v : V} (ex : Ex F H) (hc : Cell cl F (H L) c) (hy : Dx cl F y k) (hv : Dx cl F v d) (e : dPut c k d = some c2) : ∃ o, DPut H L y v (upd H L o) ∧ Cell cl F (some o) c2 := by
  cases c with
  | dk ks vs =>
    obtain ⟨kk, f1, e⟩ := bind_some e
    obtain ⟨hz, rfl⟩ := cond_some e
    obtain ⟨us, g4, g5, g6⟩ := hc
    have ey := key_dx hy f1
    have hy' := hy
    subst ey
    obtain ⟨z1, z2⟩ := putK_zip (k := kk) (v := v) g5.1
    obtain ⟨z3, z4⟩ := put_dx (ks := ks) (k := kk) hv g6
    exact ⟨_, DPut.k g4 (sz_lt (by rw [zip_len g5.1]; exact hz)), _, by rw [z1, z3], ⟨by rw [← z3]; exact z2, putZ_all g5.2 (key_ok hy f1)⟩, z4⟩
  | dt ks vs =>
    obtain ⟨kk, f1, e⟩ := bind_some e
    obtain ⟨hz, rfl⟩ := cond_some e
    obtain ⟨us, g4, g5, g6⟩ := hc
    cases hy with
    | @tup b ys es hb db =>
      have ey := keys_dx db f1
      subst ey
      obtain ⟨z1, z2⟩ := putK_zip (k := kk) (v := v) g5.1
      obtain ⟨z3, z4⟩ := put_dx (ks := ks) (k := kk) hv g6
      exact ⟨_, DPut.t g4 (ex _ _ hb) (sz_lt (by rw [zip_len g5.1]; exact hz)), _, by rw [z1, z3], ⟨by rw [← z3]; exact z2, putZ_all (p := fun l : List Key => l.all kOk) g5.2 (keys_ok db f1)⟩, z4⟩
    | _ => cases f1
  | _ => cases e
def c0 (b : Bool) : D := if b = true then .dt [] [] else .dk [] []
theorem c0_cell {F : Hp} (b : Bool) : Cell cl F (some (L2.d0 b)) (c0 b) := by
  cases b
  · exact ⟨[], rfl, ⟨rfl, rfl⟩, .nil⟩
  · exact ⟨[], rfl, ⟨rfl, rfl⟩, .nil⟩
def dcM (tg : D → S → Option S) (t : MT) (ek ev : M) (vs : List Nat) : List D → S → D → Option (D × S)
  | [], s, c => some (c, s)
  | d :: ds, s, c => (tg d s).bind fun s1 => (t s1).bind fun p => if p.1 = true then (ek p.2).bind fun q => (ev q.2).bind fun r => (dPut c q.1 r.1).bind fun c2 => dcM tg t ek ev vs ds (wipeS r.2 vs) c2 else dcM tg t ek ev vs ds (wipeS p.2 vs) c
def mDc (b : Bool) (it : MA) (tg : D → S → Option S) (js : List Nat) (t : MT) (ek ev : M) (vs : List Nat) : M := fun s => (it s).bind fun p => if (noOwn p.2 vs && js.all fun j => vs.contains j) = true then (dcM tg t ek ev vs p.1 (wipeS p.2 vs) (c0 b)).map fun r => (r.1, backS p.2 r.2 vs) else none
instance n_dc {b0 : Bool} {wi : TI} {g : TG} {tt : TT} {tk tv : TE} {vs js : List Nat} {it : MA} {tg : D → S → Option S} {t : MT} {ek ev : M} [I : ItX cl wi it] [T : TgX cl g tg js] [C : EvT cl tt t] [EK : EvX cl tk ek] [EV : EvX cl tv ev] : EvN cl (tDcG b0 wi g tt tk tv vs) (mDc b0 it tg js t ek ev vs) := ⟨fun {F H σ s ad d s'} k ee Q q => by
  obtain ⟨⟨ds, s1⟩, e1, ee⟩ := bind_some ee
  dsimp only at ee
  by_cases hcond : (noOwn s1 vs && js.all fun j => vs.contains j) = true
  · rw [if_pos hcond] at ee
    obtain ⟨⟨r, sE⟩, e2, ee⟩ := Option.map_eq_some_iff.mp ee
    cases ee
    obtain ⟨hno, hjs⟩ := Bool.and_eq_true_iff.mp hcond
    have hsub : ∀ j ∈ js, j ∈ vs := fun j hj => by simpa using List.all_eq_true.mp hjs j hj
    refine I.run k e1 _ fun F1 H1 J G Y x1 w hG hY Dl hD => ?_
    have nD : ∀ a, own s1 ad a → a ≠ Dl := fun a o z => (own_some x1.ok o).1 (z ▸ hD)
    have stD : Step (fun _ => False) F1 H1 F1 (upd H1 Dl (L2.d0 b0)) := .newM x1.ok.ex hD
    have okD : Ok cl F1 (upd H1 Dl (L2.d0 b0)) σ s1 ad := (Po.step0 x1.ok stD).ok
    have hpm : ∀ (i : Nat) (d : D), (wipeS s1 vs)[i]? = some (Sl.pm d) → i ∉ vs := fun i d h z => by
      rcases wipeS_some h with ⟨n, _⟩ | ⟨_, y⟩
      · exact n z
      · cases y
    have x0 : GI cl F1 (upd H1 Dl (L2.d0 b0)) (wipeS s1 vs) ad Dl F1 (upd H1 Dl (L2.d0 b0)) (wipe σ vs) (wipeS s1 vs) (c0 b0) :=
      ⟨okD.wipe, .refl okD.ex, fun a o => .inl o, fun i d h => ⟨d, h⟩, ⟨fun o => nD _ (own_wipe o) rfl, by rw [upd_same]; exact fun z => nomatch z⟩, ex_none x1.ok.ex hD, by rw [upd_same]; exact c0_cell b0⟩
    refine ⟨fun i m H => m = ds.length - i ∧ i ≤ ds.length ∧ ∃ F' s2 c, GI cl F1 (upd H1 Dl (L2.d0 b0)) (wipeS s1 vs) ad Dl F' H (wipe σ vs) s2 c ∧ dcM tg t ek ev vs (ds.drop i) s2 c = some (r, sE), ⟨ds.length, by simp, Nat.zero_le _, F1, _, _, x0, e2⟩, ?_⟩
    rintro i m H' ⟨rfl, hi, F', s2, c, p1, p8⟩
    have hg := hG F' H' (gi_kp x1.ok hD p1.st)
    by_cases hlt : i < ds.length
    · refine .inr ⟨w.goes i H' hlt hg, fun H' => ∃ F' s2 c, GI cl F1 (upd H1 Dl (L2.d0 b0)) (wipeS s1 vs) ad Dl F' H' (wipe σ vs) s2 c ∧ dcM tg t ek ev vs (ds.drop (i + 1)) s2 c = some (r, sE), fun H' p' => ⟨ds.length - (i + 1), by omega, rfl, hlt, p'⟩, fun x H'' y => ?_⟩
      have y := w.yields i H' x H'' hlt hg y
      obtain ⟨d, hd⟩ : ∃ d, ds[i]? = some d := ⟨ds[i], by simp [hlt]⟩
      rw [drop_cons hd] at p8
      obtain ⟨s3, f1, p8⟩ := bind_some p8
      obtain ⟨⟨b, s4⟩, f2, p8⟩ := bind_some p8
      obtain ⟨F2, st, hx⟩ := hY i d F' H' x H'' hd (gi_kp x1.ok hD p1.st) y
      have p2 := p1.po (Po.step0 p1.ok st)
      refine T.run p2.ok hx f1 _ fun σ3 ap x3 => ⟨wipe_apart ap hsub, C.run x3.ok f2 _ fun F4 H4 x4 => ?_⟩
      have wp : wipe σ3 vs = wipe σ vs := wipe_apart ap hsub
      have p3 := (p2.po x3).po x4
      cases b with
      | false =>
        simp only [Bool.false_eq_true, if_false] at p8 ⊢
        have p4 := p3.wipe hpm
        rw [wp] at p4
        exact ⟨F4, _, c, p4, p8⟩
      | true =>
        simp only [if_true] at p8 ⊢
        obtain ⟨⟨d5, s5⟩, f3, p8⟩ := bind_some p8
        obtain ⟨⟨d6, s6⟩, f4, p8⟩ := bind_some p8
        obtain ⟨c2, f5, p8⟩ := bind_some p8
        refine EK.run x4.ok f3 _ fun yv F5 H5 x5 h5 => EV.run x5.ok f4 _ fun zv F6 H6 x6 h6 => ?_
        have p5 := (p3.po x5).po x6
        obtain ⟨o, g1, g2⟩ := cell_put p5.ok.ex p5.hD (h5.mono x6.step.ex) h6 f5
        have p6 := (p5.put g2).wipe hpm
        rw [wp] at p6
        exact ⟨_, g1, F6, _, c2, p6, p8⟩
    · have ei : i = ds.length := by omega
      subst ei
      rw [List.drop_length] at p8
      cases p8
      obtain ⟨z1, z2, z3⟩ := gi_end k x1 hD hno nD p1
      exact .inl ⟨w.stops H' hg, q Dl F' H' z1 p1.fD z2 z3 p1.hD⟩
  · rw [if_neg hcond] at ee
    cases ee⟩
end Fr

set_option Elab.async false
set_option linter.all false
set_option maxRecDepth 100000
set_option maxHeartbeats 2000000
namespace Fr
open PySem PySem.Spec PyProof.Rows L2 Evl RZ
variable {cl : PySem.Str → Addr}
/-! ### sorted(set(xs)), a few tuples -/
theorem inv_keptS {X : Cx} {pins : List (Addr × Obj)} {σ : L2.St} {H : Hp} {s s' : Shared} (I : Inv X pins σ H s) (k : ∀ b u, s.heap.get? b = some u → s'.heap.get? b = some u) (g : s'.gens = s.gens) (o : s'.os = s.os) : Inv X pins σ H s' := by
  obtain ⟨h', g', d', t', os'⟩ := s'
  dsimp only at k g o
  subst g o
  exact I.step (g' := s.gens) (d' := d') (t' := t') (ch := []) (fun _ z => nomatch z) (fun b ob _ _ _ e _ => k b ob e) (fun b ob _ _ _ e _ => ⟨ob.slots, k b ob e⟩) (fun _ _ _ _ n => n) (fun b ob _ e => ⟨ob, k b ob e⟩) (fun _ _ e => e) (fun _ _ _ e => e) (fun _ ps e => ⟨#[], by rw [e]; simp⟩) (fun m hm => by
    obtain ⟨ob, es, ep, ho, r⟩ := hm
    exact ⟨ob, es, ep, k _ _ ho, r⟩) (I.hok.kept k) I.bare
theorem perm_back {α β : Type} {f : α → β} {out m : List β} (p : out.Perm m) : ∀ {L : List α}, m = L.map f → ∃ L1 : List α, out = L1.map f ∧ L1.Perm L := by
  induction p with
  | nil => intro L e; exact ⟨[], rfl, by cases L with | nil => exact .nil | cons x L => cases e⟩
  | cons x p ih =>
    intro L e
    cases L with
    | nil => cases e
    | cons y L =>
      obtain ⟨e1, e2⟩ := List.cons.inj e
      obtain ⟨L1, h1, h2⟩ := ih e2
      exact ⟨y :: L1, by rw [h1, e1]; rfl, h2.cons y⟩
  | swap x y l =>
    intro L e
    cases L with
    | nil => cases e
    | cons a L =>
      cases L with
      | nil => cases e
      | cons b L =>
        obtain ⟨e1, e2⟩ := List.cons.inj e
        obtain ⟨e2, e3⟩ := List.cons.inj e2
        exact ⟨b :: a :: L, by rw [e1, e2, e3]; rfl, .swap ..⟩
  | trans p q i1 i2 =>
    intro L e
    obtain ⟨L1, h1, h2⟩ := i2 e
    obtain ⟨L2, h3, h4⟩ := i1 h1
    exact ⟨L2, h3, h4.trans h2⟩
theorem Sbl.perm {ds es : List PyData} (h : Sbl ds) (p : es.Perm ds) : Sbl es := by
  refine ⟨fun a ha b hb => h.al a (p.mem_iff.mp ha) b (p.mem_iff.mp hb), ?_, fun d hd => h.dp d (p.mem_iff.mp hd), by rw [p.length_eq]; exact h.few⟩
  rcases h.so with z | z
  · exact .inl fun d hd => z d (p.mem_iff.mp hd)
  · exact .inr fun d hd => z d (p.mem_iff.mp hd)
section
variable {X : Cx} {pins : List (Addr × Obj)} {σ : L2.St} {H : Hp} {s : Shared} {Q : VK}
theorem sorted_gen2 {x : Value} (hu : X.A.units + 64 < cLine)
    (hcol : ∀ (E : Value → Shared → Prop) (R : List Value → Shared → Prop), (∀ s1 us (ps : List (V × PyData)), Inv X pins σ H s1 → Vals (ps.map (·.1)) us → (∀ p ∈ ps, Dp X.K H p.1 p.2) → Sbl (ps.map (·.2)) → (∀ q, H q = none → Q (.ref q) (upd H q (.lst (Srt ps)))) → R us s1) → wpAny (model X.prog X.w) X.A.in1 (collect x) R E s) :
    wpAny (model X.prog X.w) X.A (call (.builtin "sorted") [x]) (EP X pins σ Q) X.xe s := by
  refine Calls.call_function_entry kind_sorted plain_sorted entry_sorted (args_sorted1 _) ?_
  unfold Builtin.«sorted»
  refine wpAny_bind (m := checkCount "sorted" 1 1 _) (wpAny_pure (wpAny_bind (hcol _ _ fun s1 us ps I1 rv dp sb q => ?_)))
  obtain ⟨h', g', d', tk, os'⟩ := s1
  have len : us.length = ps.length := by rw [← rv.length, List.length_map]
  have few : us.length ≤ sizeLine := by rw [len]; have z := sb.few; rwa [List.length_map] at z
  refine wpAny_bind (wpAny_newList ?_ few)
  have oL : (h'.push (seqObj "list" us.toArray 0)).get? h'.objs.size = some (seqObj "list" us.toArray 0) := Heap.get?_push_size _ rfl
  change wpAny _ _ _ _ _ (⟨h'.push (seqObj "list" us.toArray 0), g', d', tk, os'⟩ : Shared)
  have old : ∀ b o, h'.get? b = some o → (PySem.W.sortingHeap (h'.push (seqObj "list" us.toArray 0)) h'.objs.size us).get? b = some o := fun b o e => PySem.W.sortingHeap_old (Nat.ne_of_lt (Heap.lt_size e)) (Heap.get?_push_of_some _ e)
  have er := each_reads (h2 := PySem.W.sortingHeap (h'.push (seqObj "list" us.toArray 0)) h'.objs.size us) I1 old rv dp
  refine wpAny_bind (wpAny_holding (wpAny_call_entry slot_list_sort ⟨_, oL, rfl⟩ entry_list_sort
    (PySem.W.list_sort_vals (s := (⟨h'.push (seqObj "list" us.toArray 0), g', d', tk, os'⟩ : Shared)) (κ := PySem.W.dataKind _ (ps.map (·.2))) oL (PySem.W.SortsAt.data (s := (⟨PySem.W.sortingHeap (h'.push (seqObj "list" us.toArray 0)) h'.objs.size us, g', d', tk, os'⟩ : Shared)) (PySem.W.each_map (R := fun v d => ∃ as, Reads (PySem.W.sortingHeap (h'.push (seqObj "list" us.toArray 0)) h'.objs.size us) v d as) (fun b : V × PyData => b.2) er) sb.al sb.so (fun d hd => by have z := sb.dp d hd; simp only [Around.in1_units] at *; omega)) few ⟨.none, rfl, ?_⟩)
    (args_list_sort _)))
  have out := PySem.W.sortVals_data false (each_rel rv) er sb.al
  have ol : (PySem.W.sortVals (PySem.W.dataKind (PySem.W.sortingHeap (h'.push (seqObj "list" us.toArray 0)) h'.objs.size us) (ps.map (·.2))) false us us).length = us.length := PySem.W.sortVals_length false rfl
  generalize PySem.W.sortVals (PySem.W.dataKind (PySem.W.sortingHeap (h'.push (seqObj "list" us.toArray 0)) h'.objs.size us) (ps.map (·.2))) false us us = res at out ol
  obtain ⟨c, hc⟩ := sortedHeap_at (vs := us) (out := res.toArray) oL
  have vo : Vals (Srt ps) res := rel_each out
  have kept : ∀ b o, h'.get? b = some o → (sortedHeap (h'.push (seqObj "list" us.toArray 0)) h'.objs.size us res.toArray).get? b = some o := fun b o e => by
    have lt := Heap.lt_size e
    rw [sortedHeap_old (Nat.ne_of_lt lt) (by rw [size_push']; exact Nat.lt_succ_of_lt lt)]
    exact Heap.get?_push_of_some _ e
  refine wpAny_pure ⟨_, rfl, .ref h'.objs.size, upd H h'.objs.size (.lst (Srt ps)), I1.laid (t' := tk) kept (Nat.le_refl _) ⟨?_, res, c, vo, hc⟩, rfl, q _ (I1.hok.fresh (Nat.le_refl _))⟩
  rw [vo.length, ol]
  exact few
end
def tSortSetW (K : PySem.W.Frag) (ta : TE) : TE := fun σ H Q => ta σ H fun x H1 => ∃ (l : Addr) (ks : List (Addr × List Key)), x = V.ref l ∧ SqL K H1 l (ks.map fun p : Addr × List Key => V.ref p.1) ∧ (∀ p ∈ ks, H1 p.1 = some (.tup (p.2.map kV))) ∧ ks.length < 64 ∧ Sbl ((TK.nub (ks.map (·.2))).map tupPy) ∧
  ∀ bs : List (Addr × List Key), (bs.map (·.2)).Perm (TK.nub (ks.map (·.2))) → (∀ p ∈ bs, H1 p.1 = some (.tup (p.2.map kV))) → ∀ q, H1 q = none → Q (.ref q) (upd H1 q (.lst (Srt (bs.map fun p => (.ref p.1, tupPy p.2)))))
theorem perm_nodup {α : Type} [DecidableEq α] {l m : List α} (hl : l.Nodup) (hm : m.Nodup) (h : ∀ x, x ∈ l ↔ x ∈ m) : l.Perm m := (List.perm_ext_iff_of_nodup hl hm).mpr h
namespace W
theorem sortSet {X : Cx} (K : PySem.W.Frag) {a : Expr} {ta : TE} {p p2 q pos : Pos} (hm : X.mg "sorted" = none) (hm2 : X.mg "set" = none) (hu : X.A.units + 64 < cLine) (ha : PE X a ta) (hK : X.K = K := by rfl) (hc : X.calm = true := by rfl) (hg : Gl X "sorted" := by rfl) (hg2 : Gl X "set" := by rfl)
    (na : starEach [a] X.env = (false, eval a X.env) :: starEach [] X.env := by rfl) : PE X (.Call (.Name "sorted" p) [.Call (.Name "set" p2) [a] [] q] [] pos) (tSortSetW K ta) := by
  subst hK
  refine ⟨fun pins s σ H Q I h => ?_⟩
  refine Call_ (ld_blt I hg hm PyProof.Rows.boot_sorted (PyProof.Rows.callWith_builtin1 (PyProof.Rows.args_cons ?_ rfl) rfl rfl))
  refine Call_ (ld_blt I hg2 hm2 PyProof.Rows.boot_set (PyProof.Rows.callWith_type1 (PyProof.Rows.args_cons (thn (ha.run pins s σ H _ I h) fun v s1 ⟨x, H1, I1, r1, q1⟩ => PyProof.Rows.args_nil ?_) na) na rfl))
  obtain ⟨l, ks, rfl, hl, tup, few, sb, q1⟩ := q1
  cases r1
  obtain ⟨its, r, pl, hz⟩ := I1.list hl
  refine TK.call_setT ks (I1.ok.hd hc) pl.isList (by simpa using vals_ref r) (fun p hp => key_of I1.hok (tup p hp)) few (by omega) fun h' tk L es ep t B g hk => PyProof.Rows.args_nil ?_
  obtain ⟨o, ho, hex, hd⟩ := B.ob
  have I2 : Inv X pins σ H1 { s1 with heap := h', toks := tk } := I1.kept hk
  have sz : es.size = L.length := B.size (s := { s1 with heap := h', toks := tk })
  have lf := B.few
  have inks : ∀ p ∈ L, p ∈ ks := fun p hp => List.mem_of_mem_take (g.1 p hp)
  have pn : (L.map (·.2)).Perm (TK.nub (ks.map (·.2))) := by
    refine perm_nodup B.nd TK.nub_nodup fun y => ?_
    rw [TK.mem_nub]
    constructor
    · intro m
      obtain ⟨p, hp, rfl⟩ := List.mem_map.mp m
      exact List.mem_map.mpr ⟨p, inks p hp, rfl⟩
    · intro m
      obtain ⟨p, hp, rfl⟩ := List.mem_map.mp m
      exact g.2.1 p (by rw [List.take_length]; exact hp)
  refine sorted_gen2 (H := H1) (s := { s1 with heap := h', toks := tk }) hu fun E R fin => collect_set (s := { s1 with heap := h', toks := tk }) (A := X.A.in1) (I2.ok.hd hc) ⟨o, ho, hex.1, hd⟩ (B.fits (s := { s1 with heap := h', toks := tk })) (by unfold scanBound; omega) B.tab.ris B.led fun s2 out k2 _ g2 o2 pm => ?_
  have rows : es.toList.map (·.2) = L.map fun p => Value.ref p.1 := by rw [B.rows, List.map_map]; rfl
  rw [rows] at pm
  obtain ⟨L1, rfl, p1⟩ := perm_back pm rfl
  have in1 : ∀ p ∈ L1, H1 p.1 = some (.tup (p.2.map kV)) := fun p hp => tup p (inks p (p1.mem_iff.mp hp))
  have p2 := (p1.map (·.2)).trans pn
  refine fin s2 _ (L1.map fun p => (V.ref p.1, tupPy p.2)) (inv_keptS I2 k2 g2 o2) ?_ (fun p hp => ?_) (Sbl.perm sb ?_) (q1 L1 p2 in1)
  · rw [List.map_map]
    have gen : ∀ L1 : List (Addr × List Key), Vals (L1.map ((fun p : V × PyData => p.1) ∘ fun p : Addr × List Key => (V.ref p.1, tupPy p.2))) (L1.map fun p => Value.ref p.1) := fun L1 => by
      induction L1 with
      | nil => exact .nil
      | cons p L1 ih => exact .cons rfl ih
    exact gen L1
  · obtain ⟨y, m, rfl⟩ := List.mem_map.mp hp
    exact dp_tup (in1 y m)
  · rw [List.map_map]
    have z := p2.map tupPy
    rw [List.map_map] at z
    exact z
end W
end Fr

set_option Elab.async false
set_option linter.all false
set_option maxRecDepth 100000
set_option maxHeartbeats 2000000
namespace Fr
open PySem PySem.Spec PyProof.Rows L2 Evl RZ
variable {cl : PySem.Str → Addr}
def tupD (k : List Key) : D := .tup (k.map kD)
/-- no two unlike keys stand at one place -/
def apartB (ks : List (List Key)) : Bool := ks.all fun a => ks.all fun b => !(ordD (tupD a) (tupD b) && ordD (tupD b) (tupD a)) || decide (a = b)
def sortSetD (ds : List D) : Option D := (tkeysOf ds).bind fun ks => if (decide (ks.length < 64) && (ks.all (fun k => k.all kOk) && (sblB ((TK.nub ks).map tupPy) && apartB (TK.nub ks)))) = true then some (.lst (isort ordD ((TK.nub ks).map tupD))) else none
def mSortSet (a : M) : M := fun s => (a s).bind fun p => match p.1 with
  | .lst ds => (sortSetD ds).map fun d => (d, p.2)
  | _ => none
theorem isort_perm (l : List D) : (isort ordD l).Perm l := by
  have T : PySem.W.TotalLe ordD := PySem.W.sortLe_total _ false _
  rw [isort_eq T]
  exact List.mergeSort_perm _ _
theorem isort_same {l m : List (List Key)} (h : apartB m = true) (p : l.Perm m) : isort ordD (l.map tupD) = isort ordD (m.map tupD) := by
  have T : PySem.W.TotalLe ordD := PySem.W.sortLe_total _ false _
  refine List.Perm.eq_of_pairwise (le := fun a b => ordD a b = true) (fun a b ha hb h1 h2 => ?_) (isort_sorted T _) (isort_sorted T _) ((isort_perm _).trans ((p.map tupD).trans (isort_perm _).symm))
  obtain ⟨x, hx, rfl⟩ := List.mem_map.mp ((isort_perm _).mem_iff.mp ha)
  obtain ⟨y, hy, rfl⟩ := List.mem_map.mp ((isort_perm _).mem_iff.mp hb)
  have z := List.all_eq_true.mp (List.all_eq_true.mp h x (p.mem_iff.mp hx)) y hy
  rw [h1, h2] at z
  have e : x = y := by simpa using z
  rw [e]
instance n_sortSet {K : PySem.W.Frag} {ta : TE} {ma : M} [A : EvX cl ta ma] : EvN cl (tSortSetW K ta) (mSortSet ma) := ⟨fun {F H σ s ad d s'} k e Q q => by
  obtain ⟨⟨d0, s1⟩, e1, e⟩ := bind_some e
  refine A.run k e1 _ fun v F1 H1 x1 h1 => ?_
  cases h1 with
  | @lst a xs ds ha da =>
    obtain ⟨r, e2, e⟩ := Option.map_eq_some_iff.mp e
    cases e
    obtain ⟨kz, e3, e2⟩ := bind_some e2
    obtain ⟨hc, rfl⟩ := cond_some e2
    obtain ⟨c1, hc⟩ := Bool.and_eq_true_iff.mp hc
    obtain ⟨c2, hc⟩ := Bool.and_eq_true_iff.mp hc
    obtain ⟨c3, c4⟩ := Bool.and_eq_true_iff.mp hc
    obtain ⟨ks, g1, rfl, g3⟩ := tkeys_dx x1.ok.ex da e3
    refine ⟨a, ks, rfl, by rw [← g1]; exact sq_of (x1.ok.ex _ _ ha), g3, by simpa using of_decide_eq_true c1, sbl_ok c3, fun bs pm hH p hp => ?_⟩
    obtain ⟨F2, st, kn⟩ := tups_known (cl := cl) (bs := bs) x1.ok.ex fun y m => ⟨hH y m, List.all_eq_true.mp c2 _ (TK.mem_nub.mp (pm.mem_iff.mp (List.mem_map.mpr ⟨y, m, rfl⟩)))⟩
    have z2 : (bs.map fun p => (V.ref p.1, tupPy p.2)) = (bs.map fun p => (V.ref p.1, tupD p.2)).map fun p => (p.1, p.2.py) := by
      rw [List.map_map]
      apply List.map_congr_left
      intro y _
      show _ = (V.ref y.1, (D.tup (y.2.map kD)).py)
      rw [tup_py]
    rw [z2]
    have x2 := x1.trans (.step0 x1.ok st)
    have st2 : Step (fun _ => False) F2 H1 F2 (upd H1 p (.lst (Srt ((bs.map fun p => (V.ref p.1, tupD p.2)).map fun p => (p.1, p.2.py))))) := .newM x2.ok.ex hp
    refine q p _ _ (back_none x1 hp) (ex_none x2.ok.ex hp) (fun a o z => (own_some x2.ok o).1 (z ▸ hp)) (x2.trans (.step0 x2.ok st2)) ⟨_, upd_same, ?_⟩
    have z3 := srt_dx (cl := cl) (F := F2) (l := bs.map fun p => (V.ref p.1, tupD p.2)) fun y m => by
      obtain ⟨z, hz, rfl⟩ := List.mem_map.mp m
      exact kn z hz
    have z4 : ((bs.map fun p => (V.ref p.1, tupD p.2)).map fun p : V × D => p.2) = (bs.map (·.2)).map tupD := by rw [List.map_map, List.map_map]; rfl
    rw [z4, isort_same c4 pm] at z3
    exact z3
  | _ => cases e⟩
instance i_sortSet {K : PySem.W.Frag} {ta : TE} {ma : M} [A : EvX cl ta ma] : EvX cl (tSortSetW K ta) (mSortSet ma) := EvN.toX fun {s d s'} e => by
  obtain ⟨p, _, e⟩ := bind_some e
  split at e
  · obtain ⟨r, e2, e⟩ := Option.map_eq_some_iff.mp e
    cases e
    obtain ⟨_, _, e2⟩ := bind_some e2
    obtain ⟨_, rfl⟩ := cond_some e2
    exact ⟨_, rfl⟩
  · cases e
end Fr

set_option Elab.async false
set_option linter.all false
set_option maxRecDepth 100000
set_option maxHeartbeats 2000000
namespace Fr
open PySem PySem.Spec PyProof.Rows L2 Evl RZ
variable {cl : PySem.Str → Addr}
/-! ### while, at most n turns -/
def whileM (c : MT) (b : MS) : Nat → S → Option (Out × S)
  | 0, _ => none
  | n + 1, s => (c s).bind fun p => if p.1 = true then (b p.2).bind fun q => match q.1 with
    | .nx => whileM c b n q.2
    | .cnt => whileM c b n q.2
    | .brk => some (.nx, q.2)
    | .ret d => some (.ret d, q.2)
    else some (.nx, p.2)
def mWhile (n : Nat) (c : MT) (b : MS) : MS := whileM c b n
instance s_while {n : Nat} {tc : TT} {tb : TS} {c : MT} {b : MS} [C : EvT cl tc c] [B : EvS cl tb b] : EvS cl (tWhile tc tb) (mWhile n c b) := ⟨fun {F H σ s ad o s'} k e E q => by
  refine ⟨fun m σ' H' => ∃ F' s2 ad', Po cl F H s ad F' H' σ' s2 ad' ∧ whileM c b m s2 = some (o, s'), ⟨n, F, s, ad, .refl k, e⟩, ?_⟩
  rintro m σ1 H1 ⟨F1, s1, ad1, x1, e1⟩
  cases m with
  | zero => cases e1
  | succ m =>
    obtain ⟨⟨t, s2⟩, e2, e1⟩ := bind_some e1
    refine C.run x1.ok e2 _ fun F2 H2 x2 => ?_
    have x3 := x1.trans x2
    cases t with
    | false =>
      simp only [Bool.false_eq_true, if_false] at e1 ⊢
      cases e1
      exact q F2 H2 σ1 ad1 x3
    | true =>
      simp only [if_true] at e1 ⊢
      obtain ⟨⟨o1, s3⟩, e3, e4⟩ := bind_some e1
      refine ⟨fun σ' H' => ∃ F' s2 ad', Po cl F H s ad F' H' σ' s2 ad' ∧ whileM c b m s2 = some (o, s'), fun σ' H' z => ⟨m, Nat.lt_succ_self m, z⟩, B.run x3.ok e3 _ ?_⟩
      cases o1 with
      | nx => exact fun F6 H6 σ6 ad6 y6 => ⟨F6, s3, ad6, x3.trans y6, e4⟩
      | cnt => exact fun F6 H6 σ6 ad6 y6 => ⟨F6, s3, ad6, x3.trans y6, e4⟩
      | brk =>
        cases e4
        exact fun F6 H6 σ6 ad6 y6 => q F6 H6 σ6 ad6 (x3.trans y6)
      | ret z =>
        cases e4
        exact fun v F6 H6 σ6 ad6 y6 h6 => q v F6 H6 σ6 ad6 (x3.trans y6) h6⟩
/-! ### enumerate -/
def enumD (ds : List D) : List D := ((List.range ds.length).zip ds).map fun p => .tup [.int (p.1 : Nat), p.2]
def itE (a : MA) : MA := fun s => (a s).bind fun p => match p.1 with
  | [.lst ds] => some (enumD ds, p.2)
  | _ => none
theorem enum_dx {F1 F2 H2 H3 : Hp} {xs : List V} {as : List D} {i : Nat} {d : D} {v : V} (da : DxAll cl F1 xs as) (hd : (enumD as)[i]? = some d) (y1 : Ex F1 F2) (y2 : Ex F2 H2) (y : YPair (fun i => some (.int (i : Nat))) (fun i => xs[i]?) i H2 v H3) : ∃ F3, Step (fun _ => False) F2 H2 F3 H3 ∧ Dx cl F3 v d := by
  obtain ⟨T, x, z, rfl, hT, rfl, hx, hz⟩ := y
  cases hx
  obtain ⟨dz, e2, h2⟩ := da.getV hz
  have lt : i < as.length := (List.getElem?_eq_some_iff.mp e2).1
  have hz2 : ((List.range as.length).zip as)[i]? = some (i, dz) := by
    rw [List.getElem?_zip_eq_some]
    exact ⟨by rw [List.getElem?_range lt], e2⟩
  unfold enumD at hd
  rw [List.getElem?_map, hz2] at hd
  cases hd
  have st : Step (fun _ => False) F2 H2 (upd F2 T (.tup [.int (i : Nat), z])) (upd H2 T (.tup [.int (i : Nat), z])) := .new y2 hT
  exact ⟨_, st, .tup upd_same (.cons (.int _) (.cons (h2.mono (y1.trans st.ex)) .nil))⟩
instance it_enum {K : PySem.W.Frag} {ta : TA} {ma : MA} [A : EvA cl ta ma] : ItX cl (iEnum K ta) (itE ma) := ⟨fun {F H σ s ad ds s'} k e R q => by
  obtain ⟨⟨l, s1⟩, e1, e⟩ := bind_some e
  dsimp only at e
  split at e
  · rename_i as
    cases e
    refine A.run k e1 _ fun vs F1 H1 x1 h1 => ?_
    cases h1 with
    | cons h1 h2 =>
      cases h2
      cases h1 with
      | @lst a xs as ha da =>
        have w := walk_enum (K := K) (a := a) (xs := xs)
        have el : xs.length = (enumD as).length := by
          unfold enumD
          rw [List.length_map, List.length_zip, List.length_range, da.length, Nat.min_self]
        rw [el] at w
        exact ⟨a, xs, rfl, sq_of (x1.ok.ex _ _ ha), q F1 H1 _ _ _ x1 w (fun F2 H2 y1 => sq_of (y1.2.1 _ _ (y1.1 _ _ ha))) fun i d F2 H2 x H3 hd y1 y => enum_dx da hd y1.1 y1.2.1 y⟩
  · cases e⟩
namespace W
theorem enum {X : Cx} (K : PySem.W.Frag) {e : Expr} {ta : TA} {p pos tpos : Pos} {elts : List Expr} {kk : Nat} (hm : X.mg "enumerate" = none) (ha : PA X [e] ta) (h : X.K = K := by rfl) (hg : Gl X "enumerate" := by rfl) (hs : starEach [e] X.env = [(false, eval e X.env)] := by rfl) : PI X (.Tuple elts kk tpos) (.Call (.Name "enumerate" p) [e] [] pos) (iEnum K ta) := h ▸ pi_enum hg hm ha hs
end W
end Fr

set_option Elab.async false
set_option linter.all false
set_option maxRecDepth 100000
set_option maxHeartbeats 2000000
namespace Fr
open PySem PySem.Spec PyProof.Rows L2 Evl RZ
variable {cl : PySem.Str → Addr}
/-! ### a, b = (new thing, new thing) -/
theorem cond_some' {α : Type} {c : Bool} {x : Option α} {y : α} (h : (if c = true then x else none) = some y) : c = true ∧ x = some y := by
  by_cases e : c = true
  · rw [if_pos e] at h
    exact ⟨e, h⟩
  · rw [if_neg e] at h
    cases h
theorem Po.setO {F H F1 H1 : Hp} {σ1 : L2.St} {s s1 : S} {ad ad1 : Nat → Addr} {i : Nat} {p : Addr} {d : D} (x1 : Po cl F H s ad F1 H1 σ1 s1 ad1) (hi : setOk s1 i = true) (hn : H p = none) (f1 : F1 p = none) (np : ∀ a, own s1 ad1 a → a ≠ p) (c1 : Cell cl F1 (H1 p) d) : Po cl F H s ad F1 H1 (σ1.set i (some (.ref p))) (s1.set i (.ow d)) (fun j => if j = i then p else ad1 j) := by
  refine ⟨x1.step, x1.ok.setO hi f1 np c1, fun a' o => ?_, fun j e' g => ?_⟩
  · obtain ⟨j, l, e', g, c, rfl⟩ := o
    rcases get_set g with ⟨rfl, z⟩ | ⟨z1, z2⟩
    · dsimp only
      rw [if_pos rfl]
      exact .inr hn
    · dsimp only
      rw [if_neg z1]
      exact x1.sub _ ⟨j, l, e', z2, c, rfl⟩
  · obtain ⟨g1, d1, g2⟩ := x1.pms j e' g
    have ne : j ≠ i := fun z => by
      subst z
      have hi2 : setOk s1 j = true := hi
      unfold setOk at hi2
      rw [g2] at hi2
      cases hi2
    refine ⟨?_, d1, by rw [List.getElem?_set_ne (Ne.symm ne)]; exact g2⟩
    show (if j = i then p else ad1 j) = ad j
    rw [if_neg ne]
    exact g1
def mParXO (i j : Nat) (a b : M) : MS := fun s => (a s).bind fun p => (b p.2).bind fun r => if setOk r.2 i = true then (if setOk (r.2.set i (.fz p.1)) j = true then some (.nx, (r.2.set i (.fz p.1)).set j (.ow r.1)) else none) else none
def mParOO (i j : Nat) (a b : M) : MS := fun s => (a s).bind fun p => (b p.2).bind fun r => if setOk r.2 i = true then (if setOk (r.2.set i (.ow p.1)) j = true then some (.nx, (r.2.set i (.ow p.1)).set j (.ow r.1)) else none) else none
instance s_parXO {i j : Nat} {t1 t2 : TE} {a b : M} [A : EvX cl t1 a] [B : EvN cl t2 b] : EvS cl (tPar i j (tCons t1 (tCons t2 tNil))) (mParXO i j a b) := ⟨fun {F H σ s ad o s'} k e E q => by
  obtain ⟨⟨d1, s1⟩, e1, e⟩ := bind_some e
  obtain ⟨⟨d2, s2⟩, e2, e⟩ := bind_some e
  obtain ⟨hi, e⟩ := cond_some' e
  obtain ⟨hj, e⟩ := cond_some e
  cases e
  refine A.run k e1 _ fun v F1 H1 x1 h1 => B.run x1.ok e2 _ fun p F2 H2 hn f2 np x2 c2 => ⟨_, _, rfl, q F2 H2 _ (fun l => if l = j then p else ad l) ?_⟩
  have x3 := x1.trans x2
  have y1 := x3.trans (x2.ok.set hi (h1.mono x2.step.ex))
  refine y1.setO hj (back_none x1 hn) f2 (fun a' o z => ?_) c2
  obtain ⟨l, m, e', g, c, rfl⟩ := o
  rcases get_set g with ⟨rfl, z2⟩ | ⟨z1, z2⟩
  · subst z2
    cases c
  · exact np _ ⟨l, m, e', z2, c, rfl⟩ z⟩
instance s_parOO {i j : Nat} {t1 t2 : TE} {a b : M} [A : EvN cl t1 a] [B : EvN cl t2 b] : EvS cl (tPar i j (tCons t1 (tCons t2 tNil))) (mParOO i j a b) := ⟨fun {F H σ s ad o s'} k e E q => by
  obtain ⟨⟨d1, s1⟩, e1, e⟩ := bind_some e
  obtain ⟨⟨d2, s2⟩, e2, e⟩ := bind_some e
  obtain ⟨hi, e⟩ := cond_some' e
  obtain ⟨hj, e⟩ := cond_some e
  cases e
  refine A.run k e1 _ fun p1 F1 H1 hn1 f1 np1 x1 c1 => B.run x1.ok e2 _ fun p F2 H2 hn f2 np x2 c2 => ⟨_, _, rfl, q F2 H2 _ (fun l => if l = j then p else if l = i then p1 else ad l) ?_⟩
  have x3 := x1.trans x2
  obtain ⟨w1, w2⟩ := x2.step.2.2 p1 c1.nn
  obtain ⟨w3, w4⟩ := w2 f1 fun o => np1 _ o rfl
  have np3 : ∀ a, own s2 ad a → a ≠ p1 := fun a' o z => by
    rcases x2.sub _ o with y | y
    · exact np1 _ y z
    · rw [z] at y
      exact c1.nn y
  have y1 := x3.setO hi hn1 (w3 c1.nt) np3 (by rw [w4]; exact c1.mono x2.step.ex)
  refine y1.setO hj (back_none x1 hn) f2 (fun a' o z => ?_) c2
  obtain ⟨l, m, e', g, c, rfl⟩ := o
  rcases get_set g with ⟨rfl, z2⟩ | ⟨z1, z2⟩
  · dsimp only at z
    rw [if_pos rfl] at z
    rw [← z] at hn
    exact c1.nn hn
  · dsimp only at z
    rw [if_neg z1] at z
    exact np _ ⟨l, m, e', z2, c, rfl⟩ z⟩
end Fr

set_option Elab.async false
set_option linter.all false
set_option maxRecDepth 100000
set_option maxHeartbeats 2000000
namespace Fr
open PySem PySem.Spec PyProof.Rows L2 Evl RZ
variable {cl : PySem.Str → Addr}
/-! ### -x; x is True, x is not True, where x is one of True, False, None -/
def mNeg (a : M) : M := fun s => (a s).bind fun p => p.1.i.map fun i => (.int (-i), p.2)
instance i_neg {ta : TE} {ma : M} [A : EvX cl ta ma] : EvX cl (tUn (rU fun i => .int (-i)) ta) (mNeg ma) := ⟨fun {F H σ s ad d s'} k e Q q => by
  obtain ⟨⟨d0, s1⟩, e1, e⟩ := bind_some e
  obtain ⟨i, e2, e⟩ := Option.map_eq_some_iff.mp e
  cases e
  refine A.run k e1 _ fun v F1 H1 x1 h1 => ?_
  cases h1 <;> first | (cases e2; done) | skip
  cases e2
  exact ⟨_, rfl, q _ _ _ x1 (.int _)⟩⟩
def rIsB (n : Bool) : R2 := fun x y H Q => ∃ b, y = .bl b ∧ (x = .non ∨ ∃ a, x = .bl a) ∧ Q (.bl (n != decide (x = .bl b))) H
namespace W
theorem isB {X : Cx} : OpR X (compareOp .Is) (rIsB false) := by
  intro pins s σ H x y v u Q I rx ry h
  obtain ⟨b, rfl, hx, q⟩ := h
  cases (show u = Value.bool b from ry)
  rcases hx with rfl | ⟨a, rfl⟩
  · cases (show v = Value.none from rx)
    refine wpAny_is_plain rfl (fin_bl I q ?_)
    cases b <;> decide
  · cases (show v = Value.bool a from rx)
    refine wpAny_is_plain rfl (fin_bl I q ?_)
    cases a <;> cases b <;> decide
theorem isNotB {X : Cx} : OpR X (compareOp .IsNot) (rIsB true) := by
  intro pins s σ H x y v u Q I rx ry h
  obtain ⟨b, rfl, hx, q⟩ := h
  cases (show u = Value.bool b from ry)
  rcases hx with rfl | ⟨a, rfl⟩
  · cases (show v = Value.none from rx)
    refine wpAny_isNot_plain rfl (fin_bl I q ?_)
    cases b <;> decide
  · cases (show v = Value.bool a from rx)
    refine wpAny_isNot_plain rfl (fin_bl I q ?_)
    cases a <;> cases b <;> decide
end W
def dIsB (n : Bool) : D → D → Option D
  | .non, .bl _ => some (.bl n)
  | .bl a, .bl b => some (.bl (n != decide (a = b)))
  | _, _ => none
instance ox_isB {n : Bool} : OpX cl (rIsB n) (dIsB n) := ⟨fun {F H x y dx dy d} e hx hy k Q q => by
  cases hy <;> first | (cases hx <;> (cases k; done)) | skip
  rename_i b
  cases hx <;> first | (cases k; done) | skip
  · cases k
    refine ⟨b, rfl, .inl rfl, ?_⟩
    have z : (n != decide (V.non = V.bl b)) = n := by
      rw [decide_eq_false (fun z => nomatch z)]
      cases n <;> rfl
    rw [z]
    exact q _ _ _ (.refl e) (.bl _)
  · rename_i a
    cases k
    refine ⟨b, rfl, .inr ⟨a, rfl⟩, ?_⟩
    have z : (n != decide (V.bl a = V.bl b)) = (n != decide (a = b)) := by
      cases a <;> cases b <;> rfl
    rw [z]
    exact q _ _ _ (.refl e) (.bl _)⟩
end Fr

set_option Elab.async false
set_option linter.all false
set_option maxRecDepth 100000
set_option maxHeartbeats 2000000
/-! New objects as data; isinstance of an own class. -/
namespace Fr
open PySem PySem.Spec PyProof.Rows L2 Evl
variable {cl : PySem.Str → Addr} {te : TE} {m : M}
theorem Cell.dxo {F : Hp} {p : Addr} {o : HO} {c : PySem.Str} {ns : List PySem.Str} {ds : List D} (hn : F p = none) (h : Cell cl F (some o) (.obj c ns ds)) : Dx cl (upd F p o) (.ref p) (.obj c ns ds) := by
  obtain ⟨dx, us, h, l, a⟩ := h
  cases h
  exact .obj upd_same l (a.mono (Ex.new hn))
/-- an object just made, never changed later -/
def objM (m : M) : M := fun s => (m s).bind fun p => match p.1 with
  | .obj _ _ _ => some p
  | _ => none
theorem objM_some {m : M} {s s' : S} {d : D} (h : objM m s = some (d, s')) : m s = some (d, s') ∧ ∃ c ns ds, d = .obj c ns ds := by
  unfold objM at h
  obtain ⟨p, e, h⟩ := bind_some h
  obtain ⟨x, s2⟩ := p
  cases x <;> first | (cases h; done) | skip
  cases h
  exact ⟨e, _, _, _, rfl⟩
instance i_obj [A : EvN cl te m] : EvX cl te (objM m) := ⟨fun {F H σ s ad d s'} k e0 Q q => by
  obtain ⟨e, c, ns, ds, rfl⟩ := objM_some e0
  refine A.run k e Q fun p F1 H1 hn f1 np x1 c1 => ?_
  cases h1 : H1 p with
  | none => exact absurd h1 c1.nn
  | some o =>
    rw [h1] at c1
    have st := x1.step.freeze hn h1 f1
    have ok2 : Ok cl (upd F1 p o) H1 σ s' ad := by
      have g := x1.ok
      refine ⟨st.exH, g.len, fun i d e => ?_, fun i l d e c => ?_, g.ne, fun i d e => ?_⟩
      · obtain ⟨v, h1, h2⟩ := g.fz i d e
        exact ⟨v, h1, h2.mono (Ex.new f1)⟩
      · obtain ⟨h1, h2, h3⟩ := g.ow i l d e c
        refine ⟨h1, ?_, h3.mono (Ex.new f1)⟩
        rw [upd_ne (np _ ⟨i, l, d, e, c, rfl⟩)]
        exact h2
      · obtain ⟨h2, h3, h4⟩ := g.rb i d e
        refine ⟨h2, ?_, h4.mono (Ex.new f1)⟩
        rw [upd_ne fun z => ?_]
        · exact h3
        · obtain ⟨od, u, h5, _⟩ := h4
          rw [z, h1] at h5
          exact c1.nf h5
    exact q (.ref p) _ H1 ⟨st, ok2, x1.sub, x1.pms⟩ (Cell.dxo f1 c1)⟩
/-! ### isinstance(e, C) -/
class IsC (K : PySem.W.Frag) (C : Addr) : Prop where
  cls : Cls K C
  ha : PySem.W.findIn K (.ref C) "__class__" = some (some (.builtin "object.__class__"))
  hn : PySem.W.specialIn K (.builtin "object.__class__") "__get__" = some (some (.builtin "getset_descriptor.__get__"))
  htk : PySem.W.takesIn K (.builtin "object.__class__") = some true
  hm : PySem.W.mroIn K C (.type "object") = some true
def mIsO (c : PySem.Str) (a : M) : M := fun s => (a s).bind fun p => if p.1.isObj c = true then some (.bl true, p.2) else none
instance i_isO {K : PySem.W.Frag} {c : PySem.Str} {ta : TE} {ma : M} [A : EvX cl ta ma] [T : IsC K (cl c)] : EvX cl (tCB (U.rIsU K) (tCons ta (tCons (tC (.ref (cl c))) tNil))) (mIsO c ma) := ⟨fun {F H σ s ad d s'} k e Q q => by
  obtain ⟨p, e1, e⟩ := bind_some e
  by_cases hb : p.1.isObj c = true
  · rw [if_pos hb] at e
    cases e
    obtain ⟨ns, ds, e2⟩ := isObj_eq hb
    obtain ⟨x, s2⟩ := p
    cases e2
    refine A.run k e1 _ fun v F1 H1 x1 h1 => ?_
    cases h1 with
    | obj hF hl ha => exact .inr ⟨_, .ref (cl c), .ref (cl c), .ref (cl c), true, rfl, .own _, .base (.ins (x1.ok.ex _ _ hF) T.cls T.ha T.hn T.htk T.hm), (by unfold PySem.W.kitOne; rw [if_pos (by simp)]), q _ _ _ x1 (.bl true)⟩
  · rw [if_neg hb] at e
    cases e⟩
/-! ### fields, K told -/
section
variable {X : Cx} {e o value : Expr} {f : PySem.Str} {pos pos' : Pos} {ta tv : TE}
theorem W.fld (K : PySem.W.Frag) (he : PE X e ta) (h : X.K = K := by rfl) (hb : attributeBase e f X.env (eval e X.env) = eval e X.env := by rfl) : PE X (.Attribute e f pos) (tFld K ta f) := by
  subst h
  exact pe_fld he hb
theorem W.sfld (K : PySem.W.Frag) (ho : PE X o ta) (hv : PE X value tv) (h : X.K = K := by rfl) (hsw : swapsWith value (some (.Attribute o f pos')) pos.line X.env = pure false := by rfl) : PS X (.Assign [.Attribute o f pos'] value pos) (sFld K ta tv f) := by
  subst h
  exact ps_fld ho hv hsw
end
/-! ### a, b, c = x, y, z -/
def mPar3 (i j l : Nat) (a : MA) : MS := fun s => (a s).bind fun p => match p.1 with
  | [x, y, z] => if setOk p.2 i = true then (if setOk (p.2.set i (.fz x)) j = true then (if setOk ((p.2.set i (.fz x)).set j (.fz y)) l = true then some (.nx, ((p.2.set i (.fz x)).set j (.fz y)).set l (.fz z)) else none) else none) else none
  | _ => none
instance s_par3 {i j l : Nat} {ta : TA} {ma : MA} [A : EvA cl ta ma] : EvS cl (tPar3 i j l ta) (mPar3 i j l ma) := ⟨fun {F H σ s ad o s'} k e E q => by
  have go : ∀ (x y z : D) (s1 : S), ma s = some ([x, y, z], s1) → setOk s1 i = true → setOk (s1.set i (.fz x)) j = true → setOk ((s1.set i (.fz x)).set j (.fz y)) l = true → (∀ F' H' σ' ad', Po cl F H s ad F' H' σ' (((s1.set i (.fz x)).set j (.fz y)).set l (.fz z)) ad' → E.nx σ' H') → tPar3 i j l ta E σ H := fun x y z s1 e1 hi hj hl q => by
    refine A.run k e1 _ fun vs F1 H1 x1 h1 => ?_
    cases h1 with
    | cons h1 h2 =>
      cases h2 with
      | cons h3 h4 =>
        cases h4 with
        | cons h5 h6 =>
          cases h6
          refine ⟨_, _, _, rfl, q F1 H1 _ ad ?_⟩
          have y1 := x1.ok.set hi h1
          have y2 := y1.ok.set hj h3
          exact x1.trans (y1.trans (y2.trans (y2.ok.set hl h5)))
  obtain ⟨⟨ds, s1⟩, e1, e⟩ := bind_some e
  dsimp only at e
  split at e
  · rename_i x y z
    split at e
    · rename_i hi
      split at e
      · rename_i hj
        split at e
        · rename_i hl
          cases e
          exact go x y z s1 e1 hi hj hl q
        · cases e
      · cases e
    · cases e
  · cases e⟩
end Fr

set_option Elab.async false
set_option linter.all false
set_option maxRecDepth 100000
set_option maxHeartbeats 3200000
/-! list(range(e)) -/
namespace Fr
open PySem PySem.Spec PyProof.Rows L2 NE He Evl
section
variable {cl : PySem.Str → Addr}
def upto (n : Nat) : List D := (List.range n).map fun i => D.int (i : Nat)
def mLstRg (a : M) : M := fun s => (a s).bind fun p => match p.1 with
  | .int n => if 0 ≤ n ∧ n ≤ 16777216 then some (.lst (upto n.toNat), p.2) else none
  | _ => none
theorem rg_dx {F : Hp} {n : Int} (h : 0 ≤ n) : DxAll cl F (rgV 0 n) (upto n.toNat) := by
  unfold rgV upto
  rw [Int.sub_zero]
  generalize List.range n.toNat = l
  induction l with
  | nil => exact .nil
  | cons i l ih =>
    rw [List.map_cons, List.map_cons]
    refine .cons ?_ ih
    rw [Int.zero_add]
    exact .int _
instance n_lstRg {ta : TE} {ma : M} [A : EvX cl ta ma] : EvN cl (tLstRg (tRg1 ta)) (mLstRg ma) := ⟨fun {F H σ s ad d s'} k e Q q => by
  obtain ⟨⟨d0, s1⟩, e1, e⟩ := bind_some e
  refine A.run k e1 _ fun v F1 H1 x1 h1 => ?_
  try dsimp only at e
  split at e
  case h_2 => cases e
  rename_i n
  split at e
  case isFalse => cases e
  rename_i ok
  cases e
  cases h1
  refine ⟨n, rfl, RgOk.of_le (Int.le_refl _) ok.2 (by decide) ok.1, fun p hp => ?_⟩
  have st : Step (fun _ => False) F1 H1 F1 (upd H1 p (.lst (rgV 0 n))) := .newM x1.ok.ex hp
  exact q p _ _ (back_none x1 hp) (ex_none x1.ok.ex hp) (fun a o z => (own_some x1.ok o).1 (z ▸ hp)) (x1.trans (.step0 x1.ok st)) ⟨rgV 0 n, upd_same, rg_dx ok.1⟩⟩
instance i_lstRg {ta : TE} {ma : M} [A : EvX cl ta ma] : EvX cl (tLstRg (tRg1 ta)) (mLstRg ma) := EvN.toX fun {s d s'} e => by
  obtain ⟨p, _, e⟩ := bind_some e
  try dsimp only at e
  split at e
  case h_2 => cases e
  split at e
  case isFalse => cases e
  cases e
  exact ⟨_, rfl⟩
end
end Fr

set_option Elab.async false
set_option linter.all false
set_option maxRecDepth 100000
set_option maxHeartbeats 3200000
/-! calls by keywords alone: f(k = ..), C(k = ..), o.m(k = ..) -/
namespace Fr
open PySem PySem.Spec PyProof.Rows L2 NE He Evl
section
variable {X : Cx} {CX : CXT} {k n : Nat} {f C : Addr} {fd : FuncData} {ps ks : List PySem.Str} {sp : Sp} {E : XK} {x m : PySem.Str} {p pos apos : Pos} {o : Expr} {kws : List Keyword} {ta : TE} {tk : TA} {g : List Value → List Value → List Value} {gV : List V → List V → List V}
def gW0 (is : List Nat) : List V → List V → List V := fun _ zs => pick is zs
def gW1 (is : List Nat) : List V → List V → List V := fun vs zs => vs ++ pick is zs
def tMethK (C : Addr) (m : PySem.Str) (n : Nat) (sp : Sp) (gV : List V → List V → List V) (E : XK) (ta : TE) (tk : TA) : TE := fun σ H Q => ta σ H fun x H1 => ∃ a dx fs, x = .ref a ∧ H1 a = some (.ins C dx fs) ∧ fs.lookup m = none ∧
  tk σ H1 fun zs H2 => zs.length = n ∧ sp (gV [x] zs) H2 Q E
theorem pe_methK {pl : Sem Bool} (he : PE X o ta) (c : Cls X.K C) (hm : Meth X.K C m f) (F : FnOk X.prog X.w X.K X.mg X.base CX k f fd ps sp) (hr : Room k X.A) (hb : KBn X.K fd ps 1 ks g gV) (hx : Passes CX X E) (hkw : PK X kws tk)
    (hall : (backToKw pos (keywordEach kws X.env)).all (·.1.isSome) = true := by rfl) (hks : (backToKw pos (keywordEach kws X.env)).filterMap (·.1) = ks := by rfl)
    (hpl : ((backTo pos (starEach [] X.env)).any (·.1) || (backToKw pos (keywordEach kws X.env)).any (·.1.isNone)) = false := by rfl)
    (ht : eval (.Call (.Attribute o m apos) [] kws pos) X.env = (do
      let ov ← eval o X.env
      standAt apos.atName
      let (f, first) ← holding [ov] (getMethod ov m pl)
      callWith pos f first (backTo pos (starEach [] X.env)) (backToKw pos (keywordEach kws X.env))) := by rfl) :
    PE X (.Call (.Attribute o m apos) [] kws pos) (tMethK C m ks.length sp gV E ta tk) := by
  refine ⟨fun pins s σ H Q I h => ?_⟩
  refine PySem.W.methodCall_KW (pl := pl) (thn (he.run pins s σ H _ I h) fun u s1 ⟨x, H1, I1, rx, a, dx, fs, ex, ea, l, q⟩ => ?_) ht
  subst ex
  obtain rfl : u = Value.ref a := rx
  refine getmeth_ok I1 ea c hm l ?_
  refine PySem.W.callWith_KW0 (first := [.ref a]) (h₀ := X.base) I.ok.mod.kin hm.kp hall (thn (hkw.run pos pins s1 σ H1 _ I1 q) fun ws s2 ⟨zs, H2, I2, rz, l2, q2⟩ => ⟨I2.kIn, ?_⟩) hpl
  rw [hks]
  exact run_fnN (us := [.ref a]) (vs := [.ref a]) F hr hb hx I2 (.cons rfl .nil) rz rfl l2 q2
end
section
variable {K : PySem.W.Frag} {x qual : PySem.Str} {params : Arguments} {body : List Stmt} {scope : Scope} {kws : List (PySem.Str × V)} {f : Addr} {fd : FuncData} {ps : List PySem.Str} {dvs : List V}
theorem kb0 (F : FunD K x qual params body scope [] kws f fd) (ks : List PySem.Str) (is : List Nat)
    (h : ∀ (kV doc pm : Value) (an : Option Addr) (cdv ct : Value) (ws : List Value), ws.length = ks.length → bindArgs (PySem.W.fnOf x qual params body scope .none kV doc pm an cdv ct) ⟨[], ks.zip ws⟩ = pure (ps.zip (pick is ws))) : KBn K fd ps 0 ks (fun _ ws => pick is ws) (gW0 is) := kbN F ks is h
theorem kb1 (F : FunD K x qual params body scope [] kws f fd) (ks : List PySem.Str) (is : List Nat)
    (h : ∀ (kV doc pm : Value) (an : Option Addr) (cdv ct : Value) (us ws : List Value), us.length = 1 → ws.length = ks.length → bindArgs (PySem.W.fnOf x qual params body scope .none kV doc pm an cdv ct) ⟨us, ks.zip ws⟩ = pure (ps.zip (us ++ pick is ws))) : KBn K fd ps 1 ks (fun us ws => us ++ pick is ws) (gW1 is) := by
  obtain ⟨oc, od, dV, kV, doc, pm, an, cdv, ct, osl, rfl, lk, hcd, hD, hK⟩ := F.ex
  rcases hD with ⟨_, rfl⟩ | ⟨e, _⟩
  · exact ⟨fun s us ws X l1 l2 => .of_eq (h kV doc pm an cdv ct us ws l1 l2), fun r1 r2 => r1.append (pick_vals r2 is)⟩
  · exact absurd rfl e
theorem kb1D (F : FunD K x qual params body scope dvs kws f fd) (ks : List PySem.Str) (is : List Nat) (hd : dvs ≠ [])
    (h : ∀ (T : Addr) (kV doc pm : Value) (an : Option Addr) (cdv ct : Value) (us its ws : List Value), us.length = 1 → its.length = dvs.length → ws.length = ks.length →
      ∃ k, bindArgs (PySem.W.fnOf x qual params body scope (.ref T) kV doc pm an cdv ct) ⟨us, ks.zip ws⟩ = seqItems? (.ref T) >>= k ∧ k (some its.toArray) = pure (ps.zip (us ++ pick is ws))) : KBn K fd ps 1 ks (fun us ws => us ++ pick is ws) (gW1 is) := by
  obtain ⟨its, z⟩ := F.kbindsD 1 ks (fun us ds ws => us ++ pick is ws) hd (fun r1 _ r3 => r1.append (pick_vals r3 is)) h
  exact z
end
section
variable {cl : PySem.Str → Addr} {c m : PySem.Str} {np n : Nat} {Φ : S → Option (D × S)} {is : List Nat} {E : XK} {tk : TA} {mk : MG}
def mCallW (np n : Nat) (Φ : S → Option (D × S)) (is : List Nat) (b : MG) : M := fun s => (b s).bind fun r => if r.1.length = n then callG np Φ (pick is r.1) r.2 else none
instance i_callW [K : EvG cl tk mk] : EvX cl (tCallN 0 n (spG cl np Φ) (gW0 is) E tNil tk) (mCallW np n Φ is mk) := ⟨fun {F H σ s ad d s'} k e Q q => by
  obtain ⟨⟨bs, s2⟩, e2, e⟩ := bind_some e
  dsimp only at e
  by_cases hl : bs.length = n
  · rw [if_pos hl] at e
    refine K.run k e2 _ fun zs F2 H2 x2 h2 => ⟨rfl, by rw [h2.length]; exact hl, ?_⟩
    exact callG_run x2.ok (ag_pick h2 is) e fun v F3 H3 x3 h3 => q v F3 H3 (x2.trans x3) h3
  · rw [if_neg hl] at e
    cases e⟩
def mMakeW (c : PySem.Str) (np n : Nat) (Φ : S → Option (D × S)) (is : List Nat) (b : MG) : M := fun s => (b s).bind fun r => if r.1.length = n then makeG c np Φ (pick is r.1) r.2 else none
instance n_makeW [K : EvG cl tk mk] : EvN cl (tMakeK (cl c) 0 n (spG cl np Φ) (gW1 is) E tNil tk) (mMakeW c np n Φ is mk) := ⟨fun {F H σ s ad d s'} k e Q q => by
  obtain ⟨⟨bs, s2⟩, e2, e⟩ := bind_some e
  dsimp only at e
  by_cases hl : bs.length = n
  · rw [if_pos hl] at e
    refine K.run k e2 _ fun zs F2 H2 x2 h2 => ⟨rfl, by rw [h2.length]; exact hl, fun x dx hx hdx ne => ?_⟩
    exact makeG_run x2.ok (ag_pick h2 is) e hx hdx ne fun F3 H3 z1 z2 x4 z3 => q x F3 H3 (back_none x2 hx) z1 z2 (x2.trans x4) z3
  · rw [if_neg hl] at e
    cases e⟩
def mMethW (c m : PySem.Str) (np n : Nat) (Φ : S → Option (D × S)) (is : List Nat) (a : M) (g : MG) : M := fun s => (a s).bind fun p => match p.1 with
  | .obj c' ns ds => if c' = c ∧ ns.contains m = false then (g p.2).bind fun r => if r.1.length = n then callG np Φ (.d (.obj c' ns ds) :: pick is r.1) r.2 else none else none
  | _ => none
instance i_methW {ta : TE} {ma : M} [A : EvX cl ta ma] [B : EvG cl tk mk] : EvX cl (tMethK (cl c) m n (spG cl np Φ) (gW1 is) E ta tk) (mMethW c m np n Φ is ma mk) := ⟨fun {F H σ s ad d s'} k e Q q => by
  obtain ⟨⟨d0, s1⟩, e1, e⟩ := bind_some e
  dsimp only at e
  cases d0 with
  | obj c' ns ds =>
    dsimp only at e
    by_cases hc : c' = c ∧ ns.contains m = false
    · have e9 := e
      rw [if_pos hc] at e9
      clear e
      obtain ⟨rfl, hm⟩ := hc
      obtain ⟨⟨bs, s2⟩, e2, e8⟩ := bind_some e9
      dsimp only at e8
      by_cases hl : bs.length = n
      · rw [if_pos hl] at e8
        refine A.run k e1 _ fun v F1 H1 x1 h1 => ?_
        obtain ⟨a, dx, us, rfl, g1, g2, g3⟩ := vw_obj x1.ok.ex (.inl h1)
        refine ⟨a, dx, _, rfl, g1, lookup_no hm, B.run x1.ok e2 _ fun zs F2 H2 x2 h2 => ⟨by rw [h2.length]; exact hl, ?_⟩⟩
        exact callG_run x2.ok (.d (h1.mono x2.step.ex) (ag_pick h2 is)) e8 fun v F3 H3 x3 h3 => q v F3 H3 ((x1.trans x2).trans x3) h3
      · rw [if_neg hl] at e8
        cases e8
    · rw [if_neg hc] at e
      cases e
  | _ => cases e⟩
end
end Fr

set_option Elab.async false
set_option linter.all false
set_option maxRecDepth 100000
set_option maxHeartbeats 400000
set_option synthInstance.maxHeartbeats 0
set_option synthInstance.maxSize 100000
namespace K12
open PySem PySem.Spec PyProof.Rows L2 NE He Evl Fr
def c_LOWER : PySem.Str := "abcdefghijklmnopqrstuvwxyz"
def c_UPPER : PySem.Str := "ABCDEFGHIJKLMNOPQRSTUVWXYZ"
structure Txt (K : PySem.W.Frag) (mg : PySem.Str → Option Value) : Prop where
  c_LOWER : ∃ t, mg "LOWER" = some (.str c_LOWER t)
  c_UPPER : ∃ t, mg "UPPER" = some (.str c_UPPER t)
  cls_Book : Cls K (ga K "Book")
  cls_Question : Cls K (ga K "Question")
  cls_Rule : Cls K (ga K "Rule")
  eq_Book : EqOf K (ga K "Book") (ma K (ga K "Book") "__eq__")
  eq_Question : EqOf K (ga K "Question") (ma K (ga K "Question") "__eq__")
  eq_Rule : EqOf K (ga K "Rule") (ma K (ga K "Rule") "__eq__")
  fr_dict : mg "dict" = none
  fr_isinstance : mg "isinstance" = none
  fr_len : mg "len" = none
  fr_list : mg "list" = none
  fr_range : mg "range" = none
  fr_set : mg "set" = none
  fr_sorted : mg "sorted" = none
  fr_str : mg "str" = none
  fr_sum : mg "sum" = none
  fr_tuple : mg "tuple" = none
  fr_zip : mg "zip" = none
  gl_Book : mg "Book" = some (.ref (ga K "Book"))
  gl_Question : mg "Question" = some (.ref (ga K "Question"))
  gl_Rule : mg "Rule" = some (.ref (ga K "Rule"))
  gl__law_draw : mg "_law_draw" = some (.ref (ga K "_law_draw"))
  gl__law_mixed : mg "_law_mixed" = some (.ref (ga K "_law_mixed"))
  gl__law_one_of : mg "_law_one_of" = some (.ref (ga K "_law_one_of"))
  gl_are_pairs : mg "are_pairs" = some (.ref (ga K "are_pairs"))
  gl_are_patterns : mg "are_patterns" = some (.ref (ga K "are_patterns"))
  gl_as_facts : mg "as_facts" = some (.ref (ga K "as_facts"))
  gl_check_fact : mg "check_fact" = some (.ref (ga K "check_fact"))
  gl_check_question : mg "check_question" = some (.ref (ga K "check_question"))
  gl_check_store : mg "check_store" = some (.ref (ga K "check_store"))
  gl_filled : mg "filled" = some (.ref (ga K "filled"))
  gl_is_fact : mg "is_fact" = some (.ref (ga K "is_fact"))
  gl_is_name : mg "is_name" = some (.ref (ga K "is_name"))
  gl_is_pair : mg "is_pair" = some (.ref (ga K "is_pair"))
  gl_is_pattern : mg "is_pattern" = some (.ref (ga K "is_pattern"))
  gl_is_store : mg "is_store" = some (.ref (ga K "is_store"))
  gl_is_term : mg "is_term" = some (.ref (ga K "is_term"))
  gl_is_variable : mg "is_variable" = some (.ref (ga K "is_variable"))
  gl_keeps_apart : mg "keeps_apart" = some (.ref (ga K "keeps_apart"))
  gl_kind_of : mg "kind_of" = some (.ref (ga K "kind_of"))
  gl_led_on : mg "led_on" = some (.ref (ga K "led_on"))
  gl_match_names : mg "match_names" = some (.ref (ga K "match_names"))
  gl_matches : mg "matches" = some (.ref (ga K "matches"))
  gl_matches_in : mg "matches_in" = some (.ref (ga K "matches_in"))
  gl_matches_of : mg "matches_of" = some (.ref (ga K "matches_of"))
  gl_orders_of : mg "orders_of" = some (.ref (ga K "orders_of"))
  gl_steps_of : mg "steps_of" = some (.ref (ga K "steps_of"))
  gl_stray : mg "stray" = some (.ref (ga K "stray"))
  gl_variables_of : mg "variables_of" = some (.ref (ga K "variables_of"))
  isc_Book : IsC K (ga K "Book")
  isc_Question : IsC K (ga K "Question")
  isc_Rule : IsC K (ga K "Rule")
  me_Book_rule : Meth K (ga K "Book") "rule" (ma K (ga K "Book") "rule")
  me_Book_without : Meth K (ga K "Book") "without" (ma K (ga K "Book") "without")
  mk_Book : Mk K (ga K "Book") (ma K (ga K "Book") "__init__")
  mk_Question : Mk K (ga K "Question") (ma K (ga K "Question") "__init__")
  mk_Rule : Mk K (ga K "Rule") (ma K (ga K "Rule") "__init__")
  pr_Question_pairs : PropOf K (ga K "Question") "pairs" (ma K (ga K "Question") "pairs") (pga K (ga K "Question") "pairs")
  pr_Question_told : PropOf K (ga K "Question") "told" (ma K (ga K "Question") "told") (pga K (ga K "Question") "told")
  pr_Rule_denied : PropOf K (ga K "Rule") "denied" (ma K (ga K "Rule") "denied") (pga K (ga K "Rule") "denied")
  pr_Rule_label : PropOf K (ga K "Rule") "label" (ma K (ga K "Rule") "label") (pga K (ga K "Rule") "label")
  pr_Rule_pairs : PropOf K (ga K "Rule") "pairs" (ma K (ga K "Rule") "pairs") (pga K (ga K "Rule") "pairs")
  pr_Rule_told : PropOf K (ga K "Rule") "told" (ma K (ga K "Rule") "told") (pga K (ga K "Rule") "told")
  fo_row : Flds K (ga K) "row" ["Rule", "Question"]
  fo_all : Flds K (ga K) "all" ["Book"]
  fo_every : Flds K (ga K) "every" ["Book"]
abbrev Fd_is_name (K : PySem.W.Frag) (fd : FuncData) : Prop := FunD K "is_name" "is_name" (defArgs d_g_is_name.st) (defBody d_g_is_name.st) (defScope d_g_is_name.st) [] [] (ga K "is_name") fd
abbrev Fd_is_variable (K : PySem.W.Frag) (fd : FuncData) : Prop := FunD K "is_variable" "is_variable" (defArgs d_g_is_variable.st) (defBody d_g_is_variable.st) (defScope d_g_is_variable.st) [] [] (ga K "is_variable") fd
abbrev Fd_is_term (K : PySem.W.Frag) (fd : FuncData) : Prop := FunD K "is_term" "is_term" (defArgs d_g_is_term.st) (defBody d_g_is_term.st) (defScope d_g_is_term.st) [] [] (ga K "is_term") fd
abbrev Fd_is_pattern (K : PySem.W.Frag) (fd : FuncData) : Prop := FunD K "is_pattern" "is_pattern" (defArgs d_g_is_pattern.st) (defBody d_g_is_pattern.st) (defScope d_g_is_pattern.st) [] [] (ga K "is_pattern") fd
abbrev Fd_is_fact (K : PySem.W.Frag) (fd : FuncData) : Prop := FunD K "is_fact" "is_fact" (defArgs d_g_is_fact.st) (defBody d_g_is_fact.st) (defScope d_g_is_fact.st) [] [] (ga K "is_fact") fd
abbrev Fd_is_store (K : PySem.W.Frag) (fd : FuncData) : Prop := FunD K "is_store" "is_store" (defArgs d_g_is_store.st) (defBody d_g_is_store.st) (defScope d_g_is_store.st) [] [] (ga K "is_store") fd
abbrev Fd_is_pair (K : PySem.W.Frag) (fd : FuncData) : Prop := FunD K "is_pair" "is_pair" (defArgs d_g_is_pair.st) (defBody d_g_is_pair.st) (defScope d_g_is_pair.st) [] [] (ga K "is_pair") fd
abbrev Fd_are_patterns (K : PySem.W.Frag) (fd : FuncData) : Prop := FunD K "are_patterns" "are_patterns" (defArgs d_g_are_patterns.st) (defBody d_g_are_patterns.st) (defScope d_g_are_patterns.st) [] [] (ga K "are_patterns") fd
abbrev Fd_are_pairs (K : PySem.W.Frag) (fd : FuncData) : Prop := FunD K "are_pairs" "are_pairs" (defArgs d_g_are_pairs.st) (defBody d_g_are_pairs.st) (defScope d_g_are_pairs.st) [] [] (ga K "are_pairs") fd
abbrev Fd_variables_of (K : PySem.W.Frag) (fd : FuncData) : Prop := FunD K "variables_of" "variables_of" (defArgs d_g_variables_of.st) (defBody d_g_variables_of.st) (defScope d_g_variables_of.st) [] [] (ga K "variables_of") fd
abbrev Fd_stray (K : PySem.W.Frag) (fd : FuncData) : Prop := FunD K "stray" "stray" (defArgs d_g_stray.st) (defBody d_g_stray.st) (defScope d_g_stray.st) [] [] (ga K "stray") fd
abbrev Fd_kind_of (K : PySem.W.Frag) (fd : FuncData) : Prop := FunD K "kind_of" "kind_of" (defArgs d_g_kind_of.st) (defBody d_g_kind_of.st) (defScope d_g_kind_of.st) [] [] (ga K "kind_of") fd
abbrev Fd_filled (K : PySem.W.Frag) (fd : FuncData) : Prop := FunD K "filled" "filled" (defArgs d_g_filled.st) (defBody d_g_filled.st) (defScope d_g_filled.st) [] [] (ga K "filled") fd
abbrev Fd_Rule_init (K : PySem.W.Frag) (fd : FuncData) : Prop := FunD K "__init__" "Rule.__init__" (defArgs d_m_Rule_init.st) (defBody d_m_Rule_init.st) (defScope d_m_Rule_init.st) [.non, .non] [] (ma K (ga K "Rule") "__init__") fd
abbrev Fd_Rule_eq (K : PySem.W.Frag) (fd : FuncData) : Prop := FunD K "__eq__" "Rule.__eq__" (defArgs d_m_Rule_eq.st) (defBody d_m_Rule_eq.st) (defScope d_m_Rule_eq.st) [] [] (ma K (ga K "Rule") "__eq__") fd
abbrev Fd_Rule_label (K : PySem.W.Frag) (fd : FuncData) : Prop := FunD K "label" "Rule.label" (defArgs d_p_Rule_label.st) (defBody d_p_Rule_label.st) (defScope d_p_Rule_label.st) [] [] (pga K (ga K "Rule") "label") fd
abbrev Fd_Rule_told (K : PySem.W.Frag) (fd : FuncData) : Prop := FunD K "told" "Rule.told" (defArgs d_p_Rule_told.st) (defBody d_p_Rule_told.st) (defScope d_p_Rule_told.st) [] [] (pga K (ga K "Rule") "told") fd
abbrev Fd_Rule_pairs (K : PySem.W.Frag) (fd : FuncData) : Prop := FunD K "pairs" "Rule.pairs" (defArgs d_p_Rule_pairs.st) (defBody d_p_Rule_pairs.st) (defScope d_p_Rule_pairs.st) [] [] (pga K (ga K "Rule") "pairs") fd
abbrev Fd_Rule_denied (K : PySem.W.Frag) (fd : FuncData) : Prop := FunD K "denied" "Rule.denied" (defArgs d_p_Rule_denied.st) (defBody d_p_Rule_denied.st) (defScope d_p_Rule_denied.st) [] [] (pga K (ga K "Rule") "denied") fd
abbrev Fd_Question_init (K : PySem.W.Frag) (fd : FuncData) : Prop := FunD K "__init__" "Question.__init__" (defArgs d_m_Question_init.st) (defBody d_m_Question_init.st) (defScope d_m_Question_init.st) [.non] [] (ma K (ga K "Question") "__init__") fd
abbrev Fd_Question_eq (K : PySem.W.Frag) (fd : FuncData) : Prop := FunD K "__eq__" "Question.__eq__" (defArgs d_m_Question_eq.st) (defBody d_m_Question_eq.st) (defScope d_m_Question_eq.st) [] [] (ma K (ga K "Question") "__eq__") fd
abbrev Fd_Question_told (K : PySem.W.Frag) (fd : FuncData) : Prop := FunD K "told" "Question.told" (defArgs d_p_Question_told.st) (defBody d_p_Question_told.st) (defScope d_p_Question_told.st) [] [] (pga K (ga K "Question") "told") fd
abbrev Fd_Question_pairs (K : PySem.W.Frag) (fd : FuncData) : Prop := FunD K "pairs" "Question.pairs" (defArgs d_p_Question_pairs.st) (defBody d_p_Question_pairs.st) (defScope d_p_Question_pairs.st) [] [] (pga K (ga K "Question") "pairs") fd
abbrev Fd_Book_init (K : PySem.W.Frag) (fd : FuncData) : Prop := FunD K "__init__" "Book.__init__" (defArgs d_m_Book_init.st) (defBody d_m_Book_init.st) (defScope d_m_Book_init.st) [] [] (ma K (ga K "Book") "__init__") fd
abbrev Fd_Book_eq (K : PySem.W.Frag) (fd : FuncData) : Prop := FunD K "__eq__" "Book.__eq__" (defArgs d_m_Book_eq.st) (defBody d_m_Book_eq.st) (defScope d_m_Book_eq.st) [] [] (ma K (ga K "Book") "__eq__") fd
abbrev Fd_Book_rule (K : PySem.W.Frag) (fd : FuncData) : Prop := FunD K "rule" "Book.rule" (defArgs d_m_Book_rule.st) (defBody d_m_Book_rule.st) (defScope d_m_Book_rule.st) [] [] (ma K (ga K "Book") "rule") fd
abbrev Fd_Book_without (K : PySem.W.Frag) (fd : FuncData) : Prop := FunD K "without" "Book.without" (defArgs d_m_Book_without.st) (defBody d_m_Book_without.st) (defScope d_m_Book_without.st) [] [] (ma K (ga K "Book") "without") fd
abbrev Fd_check_fact (K : PySem.W.Frag) (fd : FuncData) : Prop := FunD K "check_fact" "check_fact" (defArgs d_g_check_fact.st) (defBody d_g_check_fact.st) (defScope d_g_check_fact.st) [] [] (ga K "check_fact") fd
abbrev Fd_check_question (K : PySem.W.Frag) (fd : FuncData) : Prop := FunD K "check_question" "check_question" (defArgs d_g_check_question.st) (defBody d_g_check_question.st) (defScope d_g_check_question.st) [] [] (ga K "check_question") fd
abbrev Fd_check_store (K : PySem.W.Frag) (fd : FuncData) : Prop := FunD K "check_store" "check_store" (defArgs d_g_check_store.st) (defBody d_g_check_store.st) (defScope d_g_check_store.st) [] [] (ga K "check_store") fd
abbrev Fd_led_on (K : PySem.W.Frag) (fd : FuncData) : Prop := FunD K "led_on" "led_on" (defArgs d_g_led_on.st) (defBody d_g_led_on.st) (defScope d_g_led_on.st) [] [] (ga K "led_on") fd
abbrev Fd_keeps_apart (K : PySem.W.Frag) (fd : FuncData) : Prop := FunD K "keeps_apart" "keeps_apart" (defArgs d_g_keeps_apart.st) (defBody d_g_keeps_apart.st) (defScope d_g_keeps_apart.st) [] [] (ga K "keeps_apart") fd
abbrev Fd_matches_of (K : PySem.W.Frag) (fd : FuncData) : Prop := FunD K "matches_of" "matches_of" (defArgs d_g_matches_of.st) (defBody d_g_matches_of.st) (defScope d_g_matches_of.st) [] [] (ga K "matches_of") fd
abbrev Fd_matches_in (K : PySem.W.Frag) (fd : FuncData) : Prop := FunD K "matches_in" "matches_in" (defArgs d_g_matches_in.st) (defBody d_g_matches_in.st) (defScope d_g_matches_in.st) [] [] (ga K "matches_in") fd
abbrev Fd_match_names (K : PySem.W.Frag) (fd : FuncData) : Prop := FunD K "match_names" "match_names" (defArgs d_g_match_names.st) (defBody d_g_match_names.st) (defScope d_g_match_names.st) [] [] (ga K "match_names") fd
abbrev Fd_as_facts (K : PySem.W.Frag) (fd : FuncData) : Prop := FunD K "as_facts" "as_facts" (defArgs d_g_as_facts.st) (defBody d_g_as_facts.st) (defScope d_g_as_facts.st) [] [] (ga K "as_facts") fd
abbrev Fd_variables (K : PySem.W.Frag) (fd : FuncData) : Prop := FunD K "variables" "variables" (defArgs d_g_variables.st) (defBody d_g_variables.st) (defScope d_g_variables.st) [] [] (ga K "variables") fd
abbrev Fd_matches (K : PySem.W.Frag) (fd : FuncData) : Prop := FunD K "matches" "matches" (defArgs d_g_matches.st) (defBody d_g_matches.st) (defScope d_g_matches.st) [] [] (ga K "matches") fd
abbrev Fd_count_matches (K : PySem.W.Frag) (fd : FuncData) : Prop := FunD K "count_matches" "count_matches" (defArgs d_g_count_matches.st) (defBody d_g_count_matches.st) (defScope d_g_count_matches.st) [] [] (ga K "count_matches") fd
abbrev Fd_matches_with (K : PySem.W.Frag) (fd : FuncData) : Prop := FunD K "matches_with" "matches_with" (defArgs d_g_matches_with.st) (defBody d_g_matches_with.st) (defScope d_g_matches_with.st) [] [] (ga K "matches_with") fd
abbrev Fd_steps_of (K : PySem.W.Frag) (fd : FuncData) : Prop := FunD K "steps_of" "steps_of" (defArgs d_g_steps_of.st) (defBody d_g_steps_of.st) (defScope d_g_steps_of.st) [] [] (ga K "steps_of") fd
abbrev Fd_partials (K : PySem.W.Frag) (fd : FuncData) : Prop := FunD K "partials" "partials" (defArgs d_g_partials.st) (defBody d_g_partials.st) (defScope d_g_partials.st) [] [] (ga K "partials") fd
abbrev Fd_orders_of (K : PySem.W.Frag) (fd : FuncData) : Prop := FunD K "orders_of" "orders_of" (defArgs d_g_orders_of.st) (defBody d_g_orders_of.st) (defScope d_g_orders_of.st) [] [] (ga K "orders_of") fd
abbrev Fd_best_order (K : PySem.W.Frag) (fd : FuncData) : Prop := FunD K "best_order" "best_order" (defArgs d_g_best_order.st) (defBody d_g_best_order.st) (defScope d_g_best_order.st) [] [] (ga K "best_order") fd
abbrev Fd__law_mixed (K : PySem.W.Frag) (fd : FuncData) : Prop := FunD K "_law_mixed" "_law_mixed" (defArgs d_g_law_mixed.st) (defBody d_g_law_mixed.st) (defScope d_g_law_mixed.st) [] [] (ga K "_law_mixed") fd
abbrev Fd__law_draw (K : PySem.W.Frag) (fd : FuncData) : Prop := FunD K "_law_draw" "_law_draw" (defArgs d_g_law_draw.st) (defBody d_g_law_draw.st) (defScope d_g_law_draw.st) [] [] (ga K "_law_draw") fd
abbrev Fd__law_one_of (K : PySem.W.Frag) (fd : FuncData) : Prop := FunD K "_law_one_of" "_law_one_of" (defArgs d_g_law_one_of.st) (defBody d_g_law_one_of.st) (defScope d_g_law_one_of.st) [] [] (ga K "_law_one_of") fd
abbrev Fd__law_parts (K : PySem.W.Frag) (fd : FuncData) : Prop := FunD K "_law_parts" "_law_parts" (defArgs d_g_law_parts.st) (defBody d_g_law_parts.st) (defScope d_g_law_parts.st) [] [] (ga K "_law_parts") fd
abbrev Fd__law_bags (K : PySem.W.Frag) (fd : FuncData) : Prop := FunD K "_law_bags" "_law_bags" (defArgs d_g_law_bags.st) (defBody d_g_law_bags.st) (defScope d_g_law_bags.st) [] [] (ga K "_law_bags") fd
abbrev Fd__law_made_right (K : PySem.W.Frag) (fd : FuncData) : Prop := FunD K "_law_made_right" "_law_made_right" (defArgs d_g_law_made_right.st) (defBody d_g_law_made_right.st) (defScope d_g_law_made_right.st) [] [] (ga K "_law_made_right") fd
section
variable {w : World} {K : PySem.W.Frag} {mg : PySem.Str → Option Value} {base : Heap}
abbrev N_is_name : List PySem.Str := ["value", "sign"]
theorem sc_is_name : FnScope N_is_name ["value"] (defScope d_g_is_name.st) := ⟨rfl, rfl, rfl, by decide +kernel, rfl, by decide +kernel, by decide +kernel⟩
def m_is_name : MS := (mRet (mAndV (mIsT "str" (mVar 0)) (mAndV (mChain dLe dLe (mC (.int 1)) (mCB dLen (mCons (mVar 0) mNil)) (mC (.int 10))) (mOp dEqW (mLc (itL (mVar 0)) (tgN 1) [1] (mT (mOp dNiW (mVar 1) (mStr c_LOWER))) (mVar 1) [1]) (mLst mNil)))))
def phi_is_name : S → Option (D × S) := runDefG m_is_name 2
theorem ok_is_name (T : Txt K mg) {fd : FuncData} (F : Fd_is_name K fd)  : FnOk PP w K mg base CX0 1 (ga K "is_name") fd ["value"] (spG (ga K) 1 phi_is_name) := by
  refine okG F sc_is_name rfl (show runDefG m_is_name N_is_name.length = phi_is_name from rfl) ?_
  intro cdv A outer s H E hr
  have hu0 : (A.deeper (envOfC "is_name" (defScope d_g_is_name.st) s.heap.objs.size (ga K "is_name") cdv)).units < cLine := by have := hr.un; omega
  have hu : (A.deeper (envOfC "is_name" (defScope d_g_is_name.st) s.heap.objs.size (ga K "is_name") cdv)).units + 64 < cLine := by have := hr.un; omega
  have hu1 : (A.deeper (envOfC "is_name" (defScope d_g_is_name.st) s.heap.objs.size (ga K "is_name") cdv)).units + 1 < cLine := by have := hr.un; omega
  have hv : (A.deeper (envOfC "is_name" (defScope d_g_is_name.st) s.heap.objs.size (ga K "is_name") cdv)).units + 65 < cLine := by have := hr.un; omega
  refine ⟨_, PSs.nox (pss_one (ps_ret (pe_and (pe_callB (UK.isi K) rfl (T.fr_isinstance) U.bo_isinstance (pa_cons (pv 0) (pa_cons (U.bty (T.fr_str) U.bo_str) pa_nil))) (pe_and (pe_chain op_le op_le pe_int (pe_callB (UK.c_len K) rfl (T.fr_len) U.bo_len (pa_cons (pv 0) pa_nil)) pe_int) (pe_one (pe_cmpR (W.eq K hu) (pe_lc (own := [("sign", 1)]) rfl sc_is_name.nd (W.itAll K (pv 0)) (blkOk_by (by kernel_rfl)) (fun _ _ _ _ _ => (pg_name (i := 1) sc_is_name.nd rfl (by first | exact Or.inl rfl | exact Or.inr rfl))) (fun _ _ _ _ _ => (pts_one (pt_cmpR (W.notIn K hv) (pv 1) (Fr.gstr (T.c_LOWER)) rfl))) (fun _ _ _ _ _ => (pv 1))) (pe_lst pa_nil) (nomark _))))))), ?_⟩
  unfold m_is_name
  try dsimp only [List.map, List.drop_succ_cons, List.drop_zero, List.length_cons, List.length_nil, Nat.reduceAdd, Nat.zero_add]
  infer_instance
abbrev N_is_variable : List PySem.Str := ["value", "sign"]
theorem sc_is_variable : FnScope N_is_variable ["value"] (defScope d_g_is_variable.st) := ⟨rfl, rfl, rfl, by decide +kernel, rfl, by decide +kernel, by decide +kernel⟩
def m_is_variable : MS := (mRet (mAndV (mIsT "str" (mVar 0)) (mAndV (mChain dLe dLe (mC (.int 1)) (mCB dLen (mCons (mVar 0) mNil)) (mC (.int 3))) (mOp dEqW (mLc (itL (mVar 0)) (tgN 1) [1] (mT (mOp dNiW (mVar 1) (mStr c_UPPER))) (mVar 1) [1]) (mLst mNil)))))
def phi_is_variable : S → Option (D × S) := runDefG m_is_variable 2
theorem ok_is_variable (T : Txt K mg) {fd : FuncData} (F : Fd_is_variable K fd)  : FnOk PP w K mg base CX0 1 (ga K "is_variable") fd ["value"] (spG (ga K) 1 phi_is_variable) := by
  refine okG F sc_is_variable rfl (show runDefG m_is_variable N_is_variable.length = phi_is_variable from rfl) ?_
  intro cdv A outer s H E hr
  have hu0 : (A.deeper (envOfC "is_variable" (defScope d_g_is_variable.st) s.heap.objs.size (ga K "is_variable") cdv)).units < cLine := by have := hr.un; omega
  have hu : (A.deeper (envOfC "is_variable" (defScope d_g_is_variable.st) s.heap.objs.size (ga K "is_variable") cdv)).units + 64 < cLine := by have := hr.un; omega
  have hu1 : (A.deeper (envOfC "is_variable" (defScope d_g_is_variable.st) s.heap.objs.size (ga K "is_variable") cdv)).units + 1 < cLine := by have := hr.un; omega
  have hv : (A.deeper (envOfC "is_variable" (defScope d_g_is_variable.st) s.heap.objs.size (ga K "is_variable") cdv)).units + 65 < cLine := by have := hr.un; omega
  refine ⟨_, PSs.nox (pss_one (ps_ret (pe_and (pe_callB (UK.isi K) rfl (T.fr_isinstance) U.bo_isinstance (pa_cons (pv 0) (pa_cons (U.bty (T.fr_str) U.bo_str) pa_nil))) (pe_and (pe_chain op_le op_le pe_int (pe_callB (UK.c_len K) rfl (T.fr_len) U.bo_len (pa_cons (pv 0) pa_nil)) pe_int) (pe_one (pe_cmpR (W.eq K hu) (pe_lc (own := [("sign", 1)]) rfl sc_is_variable.nd (W.itAll K (pv 0)) (blkOk_by (by kernel_rfl)) (fun _ _ _ _ _ => (pg_name (i := 1) sc_is_variable.nd rfl (by first | exact Or.inl rfl | exact Or.inr rfl))) (fun _ _ _ _ _ => (pts_one (pt_cmpR (W.notIn K hv) (pv 1) (Fr.gstr (T.c_UPPER)) rfl))) (fun _ _ _ _ _ => (pv 1))) (pe_lst pa_nil) (nomark _))))))), ?_⟩
  unfold m_is_variable
  try dsimp only [List.map, List.drop_succ_cons, List.drop_zero, List.length_cons, List.length_nil, Nat.reduceAdd, Nat.zero_add]
  infer_instance
abbrev N_is_term : List PySem.Str := ["value"]
theorem sc_is_term : FnScope N_is_term ["value"] (defScope d_g_is_term.st) := ⟨rfl, rfl, rfl, by decide +kernel, rfl, by decide +kernel, by decide +kernel⟩
def m_is_term : MS := (mRet (mOrV (mCallG 1 phi_is_name (mGD (mVar 0) mGNil)) (mCallG 1 phi_is_variable (mGD (mVar 0) mGNil))))
def phi_is_term : S → Option (D × S) := runDefG m_is_term 1
theorem ok_is_term (T : Txt K mg) {fd : FuncData} (F : Fd_is_term K fd) {fd_is_variable : FuncData} (F_is_variable : Fd_is_variable K fd_is_variable) (G_is_variable : FnOk PP w K mg base CX0 1 (ga K "is_variable") fd_is_variable ["value"] (spG (ga K) 1 phi_is_variable)) {fd_is_name : FuncData} (F_is_name : Fd_is_name K fd_is_name) (G_is_name : FnOk PP w K mg base CX0 1 (ga K "is_name") fd_is_name ["value"] (spG (ga K) 1 phi_is_name)) : FnOk PP w K mg base CX0 2 (ga K "is_term") fd ["value"] (spG (ga K) 1 phi_is_term) := by
  have b_is_variable_1 : Binds K fd_is_variable ["value"] [] := F_is_variable.bindsN fun _ _ _ _ _ _ us hl => match us, hl with | [_], _ => rfl
  have b_is_name_1 : Binds K fd_is_name ["value"] [] := F_is_name.bindsN fun _ _ _ _ _ _ us hl => match us, hl with | [_], _ => rfl
  refine okG F sc_is_term rfl (show runDefG m_is_term N_is_term.length = phi_is_term from rfl) ?_
  intro cdv A outer s H E hr
  have hu0 : (A.deeper (envOfC "is_term" (defScope d_g_is_term.st) s.heap.objs.size (ga K "is_term") cdv)).units < cLine := by have := hr.un; omega
  have hu : (A.deeper (envOfC "is_term" (defScope d_g_is_term.st) s.heap.objs.size (ga K "is_term") cdv)).units + 64 < cLine := by have := hr.un; omega
  have hu1 : (A.deeper (envOfC "is_term" (defScope d_g_is_term.st) s.heap.objs.size (ga K "is_term") cdv)).units + 1 < cLine := by have := hr.un; omega
  have hv : (A.deeper (envOfC "is_term" (defScope d_g_is_term.st) s.heap.objs.size (ga K "is_term") cdv)).units + 65 < cLine := by have := hr.un; omega
  refine ⟨_, PSs.nox (pss_one (ps_ret (pe_or (pe_call G_is_name (hr.mono (by decide)) rfl (T.gl_is_name) F_is_name.kp b_is_name_1 .nil pass0 (pa_cons (pv 0) pa_nil)) (pe_one (pe_call G_is_variable (hr.mono (by decide)) rfl (T.gl_is_variable) F_is_variable.kp b_is_variable_1 .nil pass0 (pa_cons (pv 0) pa_nil)))))), ?_⟩
  unfold m_is_term
  try dsimp only [List.map, List.drop_succ_cons, List.drop_zero, List.length_cons, List.length_nil, Nat.reduceAdd, Nat.zero_add]
  infer_instance
abbrev N_is_pattern : List PySem.Str := ["value", "part"]
theorem sc_is_pattern : FnScope N_is_pattern ["value"] (defScope d_g_is_pattern.st) := ⟨rfl, rfl, rfl, by decide +kernel, rfl, by decide +kernel, by decide +kernel⟩
def m_is_pattern : MS := (mSeq (mIfS (mOr (mNot (mT (mIsT "tuple" (mVar 0)))) (mOr (mNot (mT (mChain dLe dLe (mC (.int 1)) (mCB dLen (mCons (mVar 0) mNil)) (mC (.int 4))))) (mNot (mT (mCallG 1 phi_is_name (mGD (mOp dIxW (mVar 0) (mC (.int 0))) mGNil)))))) (mRet (mC (.bl false))) mSkip) (mRet (mOp dEqW (mLc (itL (mSl (mVar 0) (mPart (mC (.int 1))) mNo)) (tgN 1) [1] (mNot (mT (mCallG 1 phi_is_term (mGD (mVar 1) mGNil)))) (mVar 1) [1]) (mLst mNil))))
def phi_is_pattern : S → Option (D × S) := runDefG m_is_pattern 2
theorem ok_is_pattern (T : Txt K mg) {fd : FuncData} (F : Fd_is_pattern K fd) {fd_is_name : FuncData} (F_is_name : Fd_is_name K fd_is_name) (G_is_name : FnOk PP w K mg base CX0 1 (ga K "is_name") fd_is_name ["value"] (spG (ga K) 1 phi_is_name)) {fd_is_term : FuncData} (F_is_term : Fd_is_term K fd_is_term) (G_is_term : FnOk PP w K mg base CX0 2 (ga K "is_term") fd_is_term ["value"] (spG (ga K) 1 phi_is_term)) : FnOk PP w K mg base CX0 3 (ga K "is_pattern") fd ["value"] (spG (ga K) 1 phi_is_pattern) := by
  have b_is_name_1 : Binds K fd_is_name ["value"] [] := F_is_name.bindsN fun _ _ _ _ _ _ us hl => match us, hl with | [_], _ => rfl
  have b_is_term_1 : Binds K fd_is_term ["value"] [] := F_is_term.bindsN fun _ _ _ _ _ _ us hl => match us, hl with | [_], _ => rfl
  refine okG F sc_is_pattern rfl (show runDefG m_is_pattern N_is_pattern.length = phi_is_pattern from rfl) ?_
  intro cdv A outer s H E hr
  have hu0 : (A.deeper (envOfC "is_pattern" (defScope d_g_is_pattern.st) s.heap.objs.size (ga K "is_pattern") cdv)).units < cLine := by have := hr.un; omega
  have hu : (A.deeper (envOfC "is_pattern" (defScope d_g_is_pattern.st) s.heap.objs.size (ga K "is_pattern") cdv)).units + 64 < cLine := by have := hr.un; omega
  have hu1 : (A.deeper (envOfC "is_pattern" (defScope d_g_is_pattern.st) s.heap.objs.size (ga K "is_pattern") cdv)).units + 1 < cLine := by have := hr.un; omega
  have hv : (A.deeper (envOfC "is_pattern" (defScope d_g_is_pattern.st) s.heap.objs.size (ga K "is_pattern") cdv)).units + 65 < cLine := by have := hr.un; omega
  refine ⟨_, PSs.nox (pss_cons (ps_if (PW.pt (pw_or (pt_not (pt_val (pe_callB (UK.isi K) rfl (T.fr_isinstance) U.bo_isinstance (pa_cons (pv 0) (pa_cons (U.bty (T.fr_tuple) U.bo_tuple) pa_nil))))) (pw_or (pt_not (pt_chain op_le op_le pe_int (pe_callB (UK.c_len K) rfl (T.fr_len) U.bo_len (pa_cons (pv 0) pa_nil)) pe_int)) (pw_or1 (pt_not (pt_val (pe_call G_is_name (hr.mono (by decide)) rfl (T.gl_is_name) F_is_name.kp b_is_name_1 .nil pass0 (pa_cons (pe_ix (W.ix K hu) (pv 0) pe_int (fun _ _ => rfl)) pa_nil)))))))) (pss_one (ps_ret pe_bl)) pss_nil)
      (pss_one (ps_ret (pe_cmpR (W.eq K hu) (pe_lc (own := [("part", 1)]) rfl sc_is_pattern.nd (W.itAll K (pe_slice (UK.sl K) (pv 0) (po_some pe_int) po_none)) (blkOk_by (by kernel_rfl)) (fun _ _ _ _ _ => (pg_name (i := 1) sc_is_pattern.nd rfl (by first | exact Or.inl rfl | exact Or.inr rfl))) (fun _ _ _ _ _ => (pts_one (pt_not (pt_val (pe_call G_is_term (hr.mono (by decide)) rfl (T.gl_is_term) F_is_term.kp b_is_term_1 .nil pass0 (pa_cons (pv 1) pa_nil)))))) (fun _ _ _ _ _ => (pv 1))) (pe_lst pa_nil) (nomark _))))), ?_⟩
  unfold m_is_pattern
  try dsimp only [List.map, List.drop_succ_cons, List.drop_zero, List.length_cons, List.length_nil, Nat.reduceAdd, Nat.zero_add]
  infer_instance
abbrev N_is_fact : List PySem.Str := ["value", "part"]
theorem sc_is_fact : FnScope N_is_fact ["value"] (defScope d_g_is_fact.st) := ⟨rfl, rfl, rfl, by decide +kernel, rfl, by decide +kernel, by decide +kernel⟩
def m_is_fact : MS := (mRet (mAndV (mCallG 1 phi_is_pattern (mGD (mVar 0) mGNil)) (mOp dEqW (mLc (itL (mVar 0)) (tgN 1) [1] (mNot (mT (mCallG 1 phi_is_name (mGD (mVar 1) mGNil)))) (mVar 1) [1]) (mLst mNil))))
def phi_is_fact : S → Option (D × S) := runDefG m_is_fact 2
theorem ok_is_fact (T : Txt K mg) {fd : FuncData} (F : Fd_is_fact K fd) {fd_is_name : FuncData} (F_is_name : Fd_is_name K fd_is_name) (G_is_name : FnOk PP w K mg base CX0 1 (ga K "is_name") fd_is_name ["value"] (spG (ga K) 1 phi_is_name)) {fd_is_pattern : FuncData} (F_is_pattern : Fd_is_pattern K fd_is_pattern) (G_is_pattern : FnOk PP w K mg base CX0 3 (ga K "is_pattern") fd_is_pattern ["value"] (spG (ga K) 1 phi_is_pattern)) : FnOk PP w K mg base CX0 4 (ga K "is_fact") fd ["value"] (spG (ga K) 1 phi_is_fact) := by
  have b_is_name_1 : Binds K fd_is_name ["value"] [] := F_is_name.bindsN fun _ _ _ _ _ _ us hl => match us, hl with | [_], _ => rfl
  have b_is_pattern_1 : Binds K fd_is_pattern ["value"] [] := F_is_pattern.bindsN fun _ _ _ _ _ _ us hl => match us, hl with | [_], _ => rfl
  refine okG F sc_is_fact rfl (show runDefG m_is_fact N_is_fact.length = phi_is_fact from rfl) ?_
  intro cdv A outer s H E hr
  have hu0 : (A.deeper (envOfC "is_fact" (defScope d_g_is_fact.st) s.heap.objs.size (ga K "is_fact") cdv)).units < cLine := by have := hr.un; omega
  have hu : (A.deeper (envOfC "is_fact" (defScope d_g_is_fact.st) s.heap.objs.size (ga K "is_fact") cdv)).units + 64 < cLine := by have := hr.un; omega
  have hu1 : (A.deeper (envOfC "is_fact" (defScope d_g_is_fact.st) s.heap.objs.size (ga K "is_fact") cdv)).units + 1 < cLine := by have := hr.un; omega
  have hv : (A.deeper (envOfC "is_fact" (defScope d_g_is_fact.st) s.heap.objs.size (ga K "is_fact") cdv)).units + 65 < cLine := by have := hr.un; omega
  refine ⟨_, PSs.nox (pss_one (ps_ret (pe_and (pe_call G_is_pattern (hr.mono (by decide)) rfl (T.gl_is_pattern) F_is_pattern.kp b_is_pattern_1 .nil pass0 (pa_cons (pv 0) pa_nil)) (pe_one (pe_cmpR (W.eq K hu) (pe_lc (own := [("part", 1)]) rfl sc_is_fact.nd (W.itAll K (pv 0)) (blkOk_by (by kernel_rfl)) (fun _ _ _ _ _ => (pg_name (i := 1) sc_is_fact.nd rfl (by first | exact Or.inl rfl | exact Or.inr rfl))) (fun _ _ _ _ _ => (pts_one (pt_not (pt_val (pe_call G_is_name (hr.mono (by decide)) rfl (T.gl_is_name) F_is_name.kp b_is_name_1 .nil pass0 (pa_cons (pv 1) pa_nil)))))) (fun _ _ _ _ _ => (pv 1))) (pe_lst pa_nil) (nomark _)))))), ?_⟩
  unfold m_is_fact
  try dsimp only [List.map, List.drop_succ_cons, List.drop_zero, List.length_cons, List.length_nil, Nat.reduceAdd, Nat.zero_add]
  infer_instance
abbrev N_is_store : List PySem.Str := ["value", "fact"]
theorem sc_is_store : FnScope N_is_store ["value"] (defScope d_g_is_store.st) := ⟨rfl, rfl, rfl, by decide +kernel, rfl, by decide +kernel, by decide +kernel⟩
def m_is_store : MS := (mSeq (mIfS (mOr (mNot (mT (mIsT "list" (mVar 0)))) (mT (mOp dNeW (mLc (itL (mVar 0)) (tgN 1) [1] (mNot (mT (mCallG 1 phi_is_fact (mGD (mVar 1) mGNil)))) (mVar 1) [1]) (mLst mNil)))) (mRet (mC (.bl false))) mSkip) (mRet (mOp dEqW (mLenSet (mVar 0)) (mCB dLen (mCons (mVar 0) mNil)))))
def phi_is_store : S → Option (D × S) := runDefG m_is_store 2
theorem ok_is_store (T : Txt K mg) {fd : FuncData} (F : Fd_is_store K fd) {fd_is_fact : FuncData} (F_is_fact : Fd_is_fact K fd_is_fact) (G_is_fact : FnOk PP w K mg base CX0 4 (ga K "is_fact") fd_is_fact ["value"] (spG (ga K) 1 phi_is_fact)) : FnOk PP w K mg base CX0 5 (ga K "is_store") fd ["value"] (spG (ga K) 1 phi_is_store) := by
  have b_is_fact_1 : Binds K fd_is_fact ["value"] [] := F_is_fact.bindsN fun _ _ _ _ _ _ us hl => match us, hl with | [_], _ => rfl
  refine okG F sc_is_store rfl (show runDefG m_is_store N_is_store.length = phi_is_store from rfl) ?_
  intro cdv A outer s H E hr
  have hu0 : (A.deeper (envOfC "is_store" (defScope d_g_is_store.st) s.heap.objs.size (ga K "is_store") cdv)).units < cLine := by have := hr.un; omega
  have hu : (A.deeper (envOfC "is_store" (defScope d_g_is_store.st) s.heap.objs.size (ga K "is_store") cdv)).units + 64 < cLine := by have := hr.un; omega
  have hu1 : (A.deeper (envOfC "is_store" (defScope d_g_is_store.st) s.heap.objs.size (ga K "is_store") cdv)).units + 1 < cLine := by have := hr.un; omega
  have hv : (A.deeper (envOfC "is_store" (defScope d_g_is_store.st) s.heap.objs.size (ga K "is_store") cdv)).units + 65 < cLine := by have := hr.un; omega
  refine ⟨_, PSs.nox (pss_cons (ps_if (PW.pt (pw_or (pt_not (pt_val (pe_callB (UK.isi K) rfl (T.fr_isinstance) U.bo_isinstance (pa_cons (pv 0) (pa_cons (U.bty (T.fr_list) U.bo_list) pa_nil))))) (pw_or1 (pt_cmpR (W.ne K hu) (pe_lc (own := [("fact", 1)]) rfl sc_is_store.nd (W.itAll K (pv 0)) (blkOk_by (by kernel_rfl)) (fun _ _ _ _ _ => (pg_name (i := 1) sc_is_store.nd rfl (by first | exact Or.inl rfl | exact Or.inr rfl))) (fun _ _ _ _ _ => (pts_one (pt_not (pt_val (pe_call G_is_fact (hr.mono (by decide)) rfl (T.gl_is_fact) F_is_fact.kp b_is_fact_1 .nil pass0 (pa_cons (pv 1) pa_nil)))))) (fun _ _ _ _ _ => (pv 1))) (pe_lst pa_nil) (nomark _))))) (pss_one (ps_ret pe_bl)) pss_nil)
      (pss_one (ps_ret (pe_cmpR (W.eq K hu) (W.lenSet K (T.fr_len) (T.fr_set) hu (pv 0)) (pe_callB (UK.c_len K) rfl (T.fr_len) U.bo_len (pa_cons (pv 0) pa_nil)) (nomark _))))), ?_⟩
  unfold m_is_store
  try dsimp only [List.map, List.drop_succ_cons, List.drop_zero, List.length_cons, List.length_nil, Nat.reduceAdd, Nat.zero_add]
  infer_instance
abbrev N_is_pair : List PySem.Str := ["value"]
theorem sc_is_pair : FnScope N_is_pair ["value"] (defScope d_g_is_pair.st) := ⟨rfl, rfl, rfl, by decide +kernel, rfl, by decide +kernel, by decide +kernel⟩
def m_is_pair : MS := (mSeq (mIfS (mOr (mNot (mT (mIsT "tuple" (mVar 0)))) (mOr (mT (mOp dNeW (mCB dLen (mCons (mVar 0) mNil)) (mC (.int 2)))) (mOr (mNot (mT (mCallG 1 phi_is_term (mGD (mOp dIxW (mVar 0) (mC (.int 0))) mGNil)))) (mNot (mT (mCallG 1 phi_is_term (mGD (mOp dIxW (mVar 0) (mC (.int 1))) mGNil))))))) (mRet (mC (.bl false))) mSkip) (mRet (mAndV (mOp dNeW (mOp dIxW (mVar 0) (mC (.int 0))) (mOp dIxW (mVar 0) (mC (.int 1)))) (mOrV (mCallG 1 phi_is_variable (mGD (mOp dIxW (mVar 0) (mC (.int 0))) mGNil)) (mCallG 1 phi_is_variable (mGD (mOp dIxW (mVar 0) (mC (.int 1))) mGNil))))))
def phi_is_pair : S → Option (D × S) := runDefG m_is_pair 1
theorem ok_is_pair (T : Txt K mg) {fd : FuncData} (F : Fd_is_pair K fd) {fd_is_term : FuncData} (F_is_term : Fd_is_term K fd_is_term) (G_is_term : FnOk PP w K mg base CX0 2 (ga K "is_term") fd_is_term ["value"] (spG (ga K) 1 phi_is_term)) {fd_is_variable : FuncData} (F_is_variable : Fd_is_variable K fd_is_variable) (G_is_variable : FnOk PP w K mg base CX0 1 (ga K "is_variable") fd_is_variable ["value"] (spG (ga K) 1 phi_is_variable)) : FnOk PP w K mg base CX0 3 (ga K "is_pair") fd ["value"] (spG (ga K) 1 phi_is_pair) := by
  have b_is_term_1 : Binds K fd_is_term ["value"] [] := F_is_term.bindsN fun _ _ _ _ _ _ us hl => match us, hl with | [_], _ => rfl
  have b_is_variable_1 : Binds K fd_is_variable ["value"] [] := F_is_variable.bindsN fun _ _ _ _ _ _ us hl => match us, hl with | [_], _ => rfl
  refine okG F sc_is_pair rfl (show runDefG m_is_pair N_is_pair.length = phi_is_pair from rfl) ?_
  intro cdv A outer s H E hr
  have hu0 : (A.deeper (envOfC "is_pair" (defScope d_g_is_pair.st) s.heap.objs.size (ga K "is_pair") cdv)).units < cLine := by have := hr.un; omega
  have hu : (A.deeper (envOfC "is_pair" (defScope d_g_is_pair.st) s.heap.objs.size (ga K "is_pair") cdv)).units + 64 < cLine := by have := hr.un; omega
  have hu1 : (A.deeper (envOfC "is_pair" (defScope d_g_is_pair.st) s.heap.objs.size (ga K "is_pair") cdv)).units + 1 < cLine := by have := hr.un; omega
  have hv : (A.deeper (envOfC "is_pair" (defScope d_g_is_pair.st) s.heap.objs.size (ga K "is_pair") cdv)).units + 65 < cLine := by have := hr.un; omega
  refine ⟨_, PSs.nox (pss_cons (ps_if (PW.pt (pw_or (pt_not (pt_val (pe_callB (UK.isi K) rfl (T.fr_isinstance) U.bo_isinstance (pa_cons (pv 0) (pa_cons (U.bty (T.fr_tuple) U.bo_tuple) pa_nil))))) (pw_or (pt_cmpR (W.ne K hu) (pe_callB (UK.c_len K) rfl (T.fr_len) U.bo_len (pa_cons (pv 0) pa_nil)) pe_int (nomark _)) (pw_or (pt_not (pt_val (pe_call G_is_term (hr.mono (by decide)) rfl (T.gl_is_term) F_is_term.kp b_is_term_1 .nil pass0 (pa_cons (pe_ix (W.ix K hu) (pv 0) pe_int (fun _ _ => rfl)) pa_nil)))) (pw_or1 (pt_not (pt_val (pe_call G_is_term (hr.mono (by decide)) rfl (T.gl_is_term) F_is_term.kp b_is_term_1 .nil pass0 (pa_cons (pe_ix (W.ix K hu) (pv 0) pe_int (fun _ _ => rfl)) pa_nil))))))))) (pss_one (ps_ret pe_bl)) pss_nil)
      (pss_one (ps_ret (pe_and (pe_cmpR (W.ne K hu) (pe_ix (W.ix K hu) (pv 0) pe_int (fun _ _ => rfl)) (pe_ix (W.ix K hu) (pv 0) pe_int (fun _ _ => rfl)) (nomark _)) (pe_one (pe_or (pe_call G_is_variable (hr.mono (by decide)) rfl (T.gl_is_variable) F_is_variable.kp b_is_variable_1 .nil pass0 (pa_cons (pe_ix (W.ix K hu) (pv 0) pe_int (fun _ _ => rfl)) pa_nil)) (pe_one (pe_call G_is_variable (hr.mono (by decide)) rfl (T.gl_is_variable) F_is_variable.kp b_is_variable_1 .nil pass0 (pa_cons (pe_ix (W.ix K hu) (pv 0) pe_int (fun _ _ => rfl)) pa_nil))))))))), ?_⟩
  unfold m_is_pair
  try dsimp only [List.map, List.drop_succ_cons, List.drop_zero, List.length_cons, List.length_nil, Nat.reduceAdd, Nat.zero_add]
  infer_instance
abbrev N_are_patterns : List PySem.Str := ["value", "pattern"]
theorem sc_are_patterns : FnScope N_are_patterns ["value"] (defScope d_g_are_patterns.st) := ⟨rfl, rfl, rfl, by decide +kernel, rfl, by decide +kernel, by decide +kernel⟩
def m_are_patterns : MS := (mRet (mAndV (mIsT "list" (mVar 0)) (mOp dEqW (mLc (itL (mVar 0)) (tgN 1) [1] (mNot (mT (mCallG 1 phi_is_pattern (mGD (mVar 1) mGNil)))) (mVar 1) [1]) (mLst mNil))))
def phi_are_patterns : S → Option (D × S) := runDefG m_are_patterns 2
theorem ok_are_patterns (T : Txt K mg) {fd : FuncData} (F : Fd_are_patterns K fd) {fd_is_pattern : FuncData} (F_is_pattern : Fd_is_pattern K fd_is_pattern) (G_is_pattern : FnOk PP w K mg base CX0 3 (ga K "is_pattern") fd_is_pattern ["value"] (spG (ga K) 1 phi_is_pattern)) : FnOk PP w K mg base CX0 4 (ga K "are_patterns") fd ["value"] (spG (ga K) 1 phi_are_patterns) := by
  have b_is_pattern_1 : Binds K fd_is_pattern ["value"] [] := F_is_pattern.bindsN fun _ _ _ _ _ _ us hl => match us, hl with | [_], _ => rfl
  refine okG F sc_are_patterns rfl (show runDefG m_are_patterns N_are_patterns.length = phi_are_patterns from rfl) ?_
  intro cdv A outer s H E hr
  have hu0 : (A.deeper (envOfC "are_patterns" (defScope d_g_are_patterns.st) s.heap.objs.size (ga K "are_patterns") cdv)).units < cLine := by have := hr.un; omega
  have hu : (A.deeper (envOfC "are_patterns" (defScope d_g_are_patterns.st) s.heap.objs.size (ga K "are_patterns") cdv)).units + 64 < cLine := by have := hr.un; omega
  have hu1 : (A.deeper (envOfC "are_patterns" (defScope d_g_are_patterns.st) s.heap.objs.size (ga K "are_patterns") cdv)).units + 1 < cLine := by have := hr.un; omega
  have hv : (A.deeper (envOfC "are_patterns" (defScope d_g_are_patterns.st) s.heap.objs.size (ga K "are_patterns") cdv)).units + 65 < cLine := by have := hr.un; omega
  refine ⟨_, PSs.nox (pss_one (ps_ret (pe_and (pe_callB (UK.isi K) rfl (T.fr_isinstance) U.bo_isinstance (pa_cons (pv 0) (pa_cons (U.bty (T.fr_list) U.bo_list) pa_nil))) (pe_one (pe_cmpR (W.eq K hu) (pe_lc (own := [("pattern", 1)]) rfl sc_are_patterns.nd (W.itAll K (pv 0)) (blkOk_by (by kernel_rfl)) (fun _ _ _ _ _ => (pg_name (i := 1) sc_are_patterns.nd rfl (by first | exact Or.inl rfl | exact Or.inr rfl))) (fun _ _ _ _ _ => (pts_one (pt_not (pt_val (pe_call G_is_pattern (hr.mono (by decide)) rfl (T.gl_is_pattern) F_is_pattern.kp b_is_pattern_1 .nil pass0 (pa_cons (pv 1) pa_nil)))))) (fun _ _ _ _ _ => (pv 1))) (pe_lst pa_nil) (nomark _)))))), ?_⟩
  unfold m_are_patterns
  try dsimp only [List.map, List.drop_succ_cons, List.drop_zero, List.length_cons, List.length_nil, Nat.reduceAdd, Nat.zero_add]
  infer_instance
abbrev N_are_pairs : List PySem.Str := ["value", "pair"]
theorem sc_are_pairs : FnScope N_are_pairs ["value"] (defScope d_g_are_pairs.st) := ⟨rfl, rfl, rfl, by decide +kernel, rfl, by decide +kernel, by decide +kernel⟩
def m_are_pairs : MS := (mRet (mAndV (mIsT "list" (mVar 0)) (mOp dEqW (mLc (itL (mVar 0)) (tgN 1) [1] (mNot (mT (mCallG 1 phi_is_pair (mGD (mVar 1) mGNil)))) (mVar 1) [1]) (mLst mNil))))
def phi_are_pairs : S → Option (D × S) := runDefG m_are_pairs 2
theorem ok_are_pairs (T : Txt K mg) {fd : FuncData} (F : Fd_are_pairs K fd) {fd_is_pair : FuncData} (F_is_pair : Fd_is_pair K fd_is_pair) (G_is_pair : FnOk PP w K mg base CX0 3 (ga K "is_pair") fd_is_pair ["value"] (spG (ga K) 1 phi_is_pair)) : FnOk PP w K mg base CX0 4 (ga K "are_pairs") fd ["value"] (spG (ga K) 1 phi_are_pairs) := by
  have b_is_pair_1 : Binds K fd_is_pair ["value"] [] := F_is_pair.bindsN fun _ _ _ _ _ _ us hl => match us, hl with | [_], _ => rfl
  refine okG F sc_are_pairs rfl (show runDefG m_are_pairs N_are_pairs.length = phi_are_pairs from rfl) ?_
  intro cdv A outer s H E hr
  have hu0 : (A.deeper (envOfC "are_pairs" (defScope d_g_are_pairs.st) s.heap.objs.size (ga K "are_pairs") cdv)).units < cLine := by have := hr.un; omega
  have hu : (A.deeper (envOfC "are_pairs" (defScope d_g_are_pairs.st) s.heap.objs.size (ga K "are_pairs") cdv)).units + 64 < cLine := by have := hr.un; omega
  have hu1 : (A.deeper (envOfC "are_pairs" (defScope d_g_are_pairs.st) s.heap.objs.size (ga K "are_pairs") cdv)).units + 1 < cLine := by have := hr.un; omega
  have hv : (A.deeper (envOfC "are_pairs" (defScope d_g_are_pairs.st) s.heap.objs.size (ga K "are_pairs") cdv)).units + 65 < cLine := by have := hr.un; omega
  refine ⟨_, PSs.nox (pss_one (ps_ret (pe_and (pe_callB (UK.isi K) rfl (T.fr_isinstance) U.bo_isinstance (pa_cons (pv 0) (pa_cons (U.bty (T.fr_list) U.bo_list) pa_nil))) (pe_one (pe_cmpR (W.eq K hu) (pe_lc (own := [("pair", 1)]) rfl sc_are_pairs.nd (W.itAll K (pv 0)) (blkOk_by (by kernel_rfl)) (fun _ _ _ _ _ => (pg_name (i := 1) sc_are_pairs.nd rfl (by first | exact Or.inl rfl | exact Or.inr rfl))) (fun _ _ _ _ _ => (pts_one (pt_not (pt_val (pe_call G_is_pair (hr.mono (by decide)) rfl (T.gl_is_pair) F_is_pair.kp b_is_pair_1 .nil pass0 (pa_cons (pv 1) pa_nil)))))) (fun _ _ _ _ _ => (pv 1))) (pe_lst pa_nil) (nomark _)))))), ?_⟩
  unfold m_are_pairs
  try dsimp only [List.map, List.drop_succ_cons, List.drop_zero, List.length_cons, List.length_nil, Nat.reduceAdd, Nat.zero_add]
  infer_instance
abbrev N_variables_of : List PySem.Str := ["patterns", "found", "pattern", "part"]
theorem sc_variables_of : FnScope N_variables_of ["patterns"] (defScope d_g_variables_of.st) := ⟨rfl, rfl, rfl, by decide +kernel, rfl, by decide +kernel, by decide +kernel⟩
def m_variables_of : MS := (mSeq (mSetO 1 mDNew) (mSeq (mFor (itL (mVar 0)) (tgN 2) (mFor (itL (mSl (mVar 2) (mPart (mC (.int 1))) mNo)) (tgN 3) (mIfS (mT (mCallG 1 phi_is_variable (mGD (mVar 3) mGNil))) (mPutD 1 (mVar 3) (mC (.bl true))) mSkip))) (mFixD 1 (mRet (mListC (mVar 1))))))
def phi_variables_of : S → Option (D × S) := runDefG m_variables_of 4
theorem ok_variables_of (T : Txt K mg) {fd : FuncData} (F : Fd_variables_of K fd) {fd_is_variable : FuncData} (F_is_variable : Fd_is_variable K fd_is_variable) (G_is_variable : FnOk PP w K mg base CX0 1 (ga K "is_variable") fd_is_variable ["value"] (spG (ga K) 1 phi_is_variable)) : FnOk PP w K mg base CX0 2 (ga K "variables_of") fd ["patterns"] (spG (ga K) 1 phi_variables_of) := by
  have b_is_variable_1 : Binds K fd_is_variable ["value"] [] := F_is_variable.bindsN fun _ _ _ _ _ _ us hl => match us, hl with | [_], _ => rfl
  refine okG F sc_variables_of rfl (show runDefG m_variables_of N_variables_of.length = phi_variables_of from rfl) ?_
  intro cdv A outer s H E hr
  have hu0 : (A.deeper (envOfC "variables_of" (defScope d_g_variables_of.st) s.heap.objs.size (ga K "variables_of") cdv)).units < cLine := by have := hr.un; omega
  have hu : (A.deeper (envOfC "variables_of" (defScope d_g_variables_of.st) s.heap.objs.size (ga K "variables_of") cdv)).units + 64 < cLine := by have := hr.un; omega
  have hu1 : (A.deeper (envOfC "variables_of" (defScope d_g_variables_of.st) s.heap.objs.size (ga K "variables_of") cdv)).units + 1 < cLine := by have := hr.un; omega
  have hv : (A.deeper (envOfC "variables_of" (defScope d_g_variables_of.st) s.heap.objs.size (ga K "variables_of") cdv)).units + 65 < cLine := by have := hr.un; omega
  refine ⟨_, PSs.nox (pss_cons (ps_set (i := 1) sc_variables_of.nd rfl (by first | exact Or.inl rfl | exact Or.inr rfl) pe_dnewK)
      (pss_cons (ps_for PassesOwn.never rfl (W.itAll K (pv 0)) (pg_name (i := 2) sc_variables_of.nd rfl (by first | exact Or.inl rfl | exact Or.inr rfl)) (pss_one (ps_for PassesOwn.never rfl (W.itAll K (pe_slice (UK.sl K) (pv 2) (po_some pe_int) po_none)) (pg_name (i := 3) sc_variables_of.nd rfl (by first | exact Or.inl rfl | exact Or.inr rfl)) (pss_one (ps_if (pt_val (pe_call G_is_variable (hr.mono (by decide)) rfl (T.gl_is_variable) F_is_variable.kp b_is_variable_1 .nil pass0 (pa_cons (pv 3) pa_nil))) (pss_one (ps_dput hu1 (pv 1) (pv 3) pe_bl rfl)) pss_nil)))))
      (pss_frz (i := 1) (pss_one (ps_ret (pe_callTy (W.c_list K) rfl (T.fr_list) U.bo_list (pa_cons (pv 1) pa_nil))))))), ?_⟩
  unfold m_variables_of
  try dsimp only [List.map, List.drop_succ_cons, List.drop_zero, List.length_cons, List.length_nil, Nat.reduceAdd, Nat.zero_add]
  infer_instance
abbrev N_stray : List PySem.Str := ["patterns", "pairs", "told", "some", "parts", "pair", "part"]
theorem sc_stray : FnScope N_stray ["patterns", "pairs", "told"] (defScope d_g_stray.st) := ⟨rfl, rfl, rfl, by decide +kernel, rfl, by decide +kernel, by decide +kernel⟩
def m_stray : MS := (mSeq (mSet 3 (mCallG 1 phi_variables_of (mGD (mVar 2) mGNil))) (mSeq (mSet 4 (mOp dAdd (mCallG 1 phi_variables_of (mGD (mVar 0) mGNil)) (mLc2 (itL (mVar 1)) (tgN 5) [5] mYes (itL (mVar 5)) (tgN 6) [6] (mT (mCallG 1 phi_is_variable (mGD (mVar 6) mGNil))) (mVar 6) [5, 6] [6]))) (mRet (mOp dNeW (mLc (itL (mVar 4)) (tgN 6) [6] (mT (mOp dNiW (mVar 6) (mVar 3))) (mVar 6) [6]) (mLst mNil)))))
def phi_stray : S → Option (D × S) := runDefG m_stray 7
theorem ok_stray (T : Txt K mg) {fd : FuncData} (F : Fd_stray K fd) {fd_variables_of : FuncData} (F_variables_of : Fd_variables_of K fd_variables_of) (G_variables_of : FnOk PP w K mg base CX0 2 (ga K "variables_of") fd_variables_of ["patterns"] (spG (ga K) 1 phi_variables_of)) {fd_is_variable : FuncData} (F_is_variable : Fd_is_variable K fd_is_variable) (G_is_variable : FnOk PP w K mg base CX0 1 (ga K "is_variable") fd_is_variable ["value"] (spG (ga K) 1 phi_is_variable)) : FnOk PP w K mg base CX0 3 (ga K "stray") fd ["patterns", "pairs", "told"] (spG (ga K) 3 phi_stray) := by
  have b_variables_of_1 : Binds K fd_variables_of ["patterns"] [] := F_variables_of.bindsN fun _ _ _ _ _ _ us hl => match us, hl with | [_], _ => rfl
  have b_is_variable_1 : Binds K fd_is_variable ["value"] [] := F_is_variable.bindsN fun _ _ _ _ _ _ us hl => match us, hl with | [_], _ => rfl
  refine okG F sc_stray rfl (show runDefG m_stray N_stray.length = phi_stray from rfl) ?_
  intro cdv A outer s H E hr
  have hu0 : (A.deeper (envOfC "stray" (defScope d_g_stray.st) s.heap.objs.size (ga K "stray") cdv)).units < cLine := by have := hr.un; omega
  have hu : (A.deeper (envOfC "stray" (defScope d_g_stray.st) s.heap.objs.size (ga K "stray") cdv)).units + 64 < cLine := by have := hr.un; omega
  have hu1 : (A.deeper (envOfC "stray" (defScope d_g_stray.st) s.heap.objs.size (ga K "stray") cdv)).units + 1 < cLine := by have := hr.un; omega
  have hv : (A.deeper (envOfC "stray" (defScope d_g_stray.st) s.heap.objs.size (ga K "stray") cdv)).units + 65 < cLine := by have := hr.un; omega
  refine ⟨_, PSs.nox (pss_cons (ps_set (i := 3) sc_stray.nd rfl (by first | exact Or.inl rfl | exact Or.inr rfl) (pe_call G_variables_of (hr.mono (by decide)) rfl (T.gl_variables_of) F_variables_of.kp b_variables_of_1 .nil pass0 (pa_cons (pv 2) pa_nil)))
      (pss_cons (ps_set (i := 4) sc_stray.nd rfl (by first | exact Or.inl rfl | exact Or.inr rfl) (pe_op (UK.add K) (pe_call G_variables_of (hr.mono (by decide)) rfl (T.gl_variables_of) F_variables_of.kp b_variables_of_1 .nil pass0 (pa_cons (pv 0) pa_nil)) (pe_lc2 (own := [("pair", 5), ("part", 6)]) (vs1 := [6]) rfl sc_stray.nd (W.itAll K (pv 1)) (blkOk_by (by kernel_rfl)) (by decide) (fun _ _ _ _ _ => (pg_name (i := 5) sc_stray.nd rfl (by first | exact Or.inl rfl | exact Or.inr rfl))) (fun _ _ _ _ _ => pts_nil) (fun _ _ _ _ _ => (W.itAll K (pv 5))) (fun _ _ _ _ _ => (pg_name (i := 6) sc_stray.nd rfl (by first | exact Or.inl rfl | exact Or.inr rfl))) (fun _ _ _ _ _ => (pts_one (pt_val (pe_call G_is_variable (hr.mono (by decide)) rfl (T.gl_is_variable) F_is_variable.kp b_is_variable_1 .nil pass0 (pa_cons (pv 6) pa_nil))))) (fun _ _ _ _ _ => (pv 6)))))
      (pss_one (ps_ret (pe_cmpR (W.ne K hu) (pe_lc (own := [("part", 6)]) rfl sc_stray.nd (W.itAll K (pv 4)) (blkOk_by (by kernel_rfl)) (fun _ _ _ _ _ => (pg_name (i := 6) sc_stray.nd rfl (by first | exact Or.inl rfl | exact Or.inr rfl))) (fun _ _ _ _ _ => (pts_one (pt_cmpR (W.notIn K hv) (pv 6) (pv 3) rfl))) (fun _ _ _ _ _ => (pv 6))) (pe_lst pa_nil) (nomark _)))))), ?_⟩
  unfold m_stray
  try dsimp only [List.map, List.drop_succ_cons, List.drop_zero, List.length_cons, List.length_nil, Nat.reduceAdd, Nat.zero_add]
  infer_instance
abbrev N_kind_of : List PySem.Str := ["pattern"]
theorem sc_kind_of : FnScope N_kind_of ["pattern"] (defScope d_g_kind_of.st) := ⟨rfl, rfl, rfl, by decide +kernel, rfl, by decide +kernel, by decide +kernel⟩
def m_kind_of : MS := (mRet (mTup (mCons (mOp dIxW (mVar 0) (mC (.int 0))) (mCons (mOp dSub (mCB dLen (mCons (mVar 0) mNil)) (mC (.int 1))) mNil))))
def phi_kind_of : S → Option (D × S) := runDefG m_kind_of 1
theorem ok_kind_of (T : Txt K mg) {fd : FuncData} (F : Fd_kind_of K fd)  : FnOk PP w K mg base CX0 1 (ga K "kind_of") fd ["pattern"] (spG (ga K) 1 phi_kind_of) := by
  refine okG F sc_kind_of rfl (show runDefG m_kind_of N_kind_of.length = phi_kind_of from rfl) ?_
  intro cdv A outer s H E hr
  have hu0 : (A.deeper (envOfC "kind_of" (defScope d_g_kind_of.st) s.heap.objs.size (ga K "kind_of") cdv)).units < cLine := by have := hr.un; omega
  have hu : (A.deeper (envOfC "kind_of" (defScope d_g_kind_of.st) s.heap.objs.size (ga K "kind_of") cdv)).units + 64 < cLine := by have := hr.un; omega
  have hu1 : (A.deeper (envOfC "kind_of" (defScope d_g_kind_of.st) s.heap.objs.size (ga K "kind_of") cdv)).units + 1 < cLine := by have := hr.un; omega
  have hv : (A.deeper (envOfC "kind_of" (defScope d_g_kind_of.st) s.heap.objs.size (ga K "kind_of") cdv)).units + 65 < cLine := by have := hr.un; omega
  refine ⟨_, PSs.nox (pss_one (ps_ret (pe_tup (pa_cons (pe_ix (W.ix K hu) (pv 0) pe_int (fun _ _ => rfl)) (pa_cons (pe_op U.sub (pe_callB (UK.c_len K) rfl (T.fr_len) U.bo_len (pa_cons (pv 0) pa_nil)) pe_int) pa_nil))))), ?_⟩
  unfold m_kind_of
  try dsimp only [List.map, List.drop_succ_cons, List.drop_zero, List.length_cons, List.length_nil, Nat.reduceAdd, Nat.zero_add]
  infer_instance
abbrev N_filled : List PySem.Str := ["pattern", "names", "part"]
theorem sc_filled : FnScope N_filled ["pattern", "names"] (defScope d_g_filled.st) := ⟨rfl, rfl, rfl, by decide +kernel, rfl, by decide +kernel, by decide +kernel⟩
def m_filled : MS := (mRet (mOp dAdd (mSl (mVar 0) mNo (mPart (mC (.int 1)))) (mTupC (mLc (itL (mSl (mVar 0) (mPart (mC (.int 1))) mNo)) (tgN 2) [2] mYes (mGet2 (mVar 1) (mVar 2) (mVar 2)) [2]))))
def phi_filled : S → Option (D × S) := runDefG m_filled 3
theorem ok_filled (T : Txt K mg) {fd : FuncData} (F : Fd_filled K fd)  : FnOk PP w K mg base CX0 1 (ga K "filled") fd ["pattern", "names"] (spG (ga K) 2 phi_filled) := by
  refine okG F sc_filled rfl (show runDefG m_filled N_filled.length = phi_filled from rfl) ?_
  intro cdv A outer s H E hr
  have hu0 : (A.deeper (envOfC "filled" (defScope d_g_filled.st) s.heap.objs.size (ga K "filled") cdv)).units < cLine := by have := hr.un; omega
  have hu : (A.deeper (envOfC "filled" (defScope d_g_filled.st) s.heap.objs.size (ga K "filled") cdv)).units + 64 < cLine := by have := hr.un; omega
  have hu1 : (A.deeper (envOfC "filled" (defScope d_g_filled.st) s.heap.objs.size (ga K "filled") cdv)).units + 1 < cLine := by have := hr.un; omega
  have hv : (A.deeper (envOfC "filled" (defScope d_g_filled.st) s.heap.objs.size (ga K "filled") cdv)).units + 65 < cLine := by have := hr.un; omega
  refine ⟨_, PSs.nox (pss_one (ps_ret (pe_op (UK.add K) (pe_slice (UK.sl K) (pv 0) po_none (po_some pe_int)) (pe_callTy (W.c_tuple K) rfl (T.fr_tuple) U.bo_tuple (pa_cons (pe_lc (own := [("part", 2)]) rfl sc_filled.nd (W.itAll K (pe_slice (UK.sl K) (pv 0) (po_some pe_int) po_none)) (blkOk_by (by kernel_rfl)) (fun _ _ _ _ _ => (pg_name (i := 2) sc_filled.nd rfl (by first | exact Or.inl rfl | exact Or.inr rfl))) (fun _ _ _ _ _ => pts_nil) (fun _ _ _ _ _ => (pe_dget2 hu1 (pv 1) (pv 2) (pv 2) ⟨rfl, rfl, rfl, rfl⟩))) pa_nil))))), ?_⟩
  unfold m_filled
  try dsimp only [List.map, List.drop_succ_cons, List.drop_zero, List.length_cons, List.length_nil, Nat.reduceAdd, Nat.zero_add]
  infer_instance
abbrev N_Rule_init : List PySem.Str := ["self", "label", "head", "told", "pairs", "denied", "some", "none"]
theorem sc_Rule_init : FnScope N_Rule_init ["self", "label", "head", "told", "pairs", "denied"] (defScope d_m_Rule_init.st) := ⟨rfl, rfl, rfl, by decide +kernel, rfl, by decide +kernel, by decide +kernel⟩
def m_Rule_init : MS := (mSeq (mIfS (mNot (mT (mCallG 1 phi_is_name (mGD (mVar 1) mGNil)))) mStuck mSkip) (mSeq (mIfS (mNot (mT (mCallG 1 phi_is_pattern (mGD (mVar 2) mGNil)))) mStuck mSkip) (mSeq (mIfS (mNot (mT (mCallG 1 phi_are_patterns (mGD (mVar 3) mGNil)))) mStuck mSkip) (mSeq (mIfS (mAnd (mT (mOp dNotN (mVar 4) (mC .non))) (mNot (mT (mCallG 1 phi_are_pairs (mGD (mVar 4) mGNil))))) mStuck mSkip) (mSeq (mIfS (mAnd (mT (mOp dNotN (mVar 5) (mC .non))) (mNot (mT (mCallG 1 phi_are_patterns (mGD (mVar 5) mGNil))))) mStuck mSkip) (mSeq (mPar 6 7 (mCons (mIf (mT (mOp dIsN (mVar 4) (mC .non))) (mLst mNil) (mVar 4)) (mCons (mIf (mT (mOp dIsN (mVar 5) (mC .non))) (mLst mNil) (mVar 5)) mNil))) (mSeq (mIfS (mT (mCallG 3 phi_stray (mGD (mLst (mCons (mVar 2) mNil)) (mGD (mLst mNil) (mGD (mVar 3) mGNil))))) mStuck mSkip) (mSeq (mIfS (mT (mCallG 3 phi_stray (mGD (mLst mNil) (mGD (mVar 6) (mGD (mVar 3) mGNil))))) mStuck mSkip) (mSeq (mIfS (mT (mCallG 3 phi_stray (mGD (mVar 7) (mGD (mLst mNil) (mGD (mVar 3) mGNil))))) mStuck mSkip) (mSetF 0 "row" ["Rule", "Question"] (mTup (mCons (mVar 1) (mCons (mVar 2) (mCons (mTupC (mVar 3)) (mCons (mTupC (mVar 6)) (mCons (mTupC (mVar 7)) mNil))))))))))))))))
def phi_Rule_init : S → Option (D × S) := runDefG m_Rule_init 8
theorem ok_Rule_init (T : Txt K mg) {fd : FuncData} (F : Fd_Rule_init K fd) {fd_is_name : FuncData} (F_is_name : Fd_is_name K fd_is_name) (G_is_name : FnOk PP w K mg base CX0 1 (ga K "is_name") fd_is_name ["value"] (spG (ga K) 1 phi_is_name)) {fd_is_pattern : FuncData} (F_is_pattern : Fd_is_pattern K fd_is_pattern) (G_is_pattern : FnOk PP w K mg base CX0 3 (ga K "is_pattern") fd_is_pattern ["value"] (spG (ga K) 1 phi_is_pattern)) {fd_are_patterns : FuncData} (F_are_patterns : Fd_are_patterns K fd_are_patterns) (G_are_patterns : FnOk PP w K mg base CX0 4 (ga K "are_patterns") fd_are_patterns ["value"] (spG (ga K) 1 phi_are_patterns)) {fd_are_pairs : FuncData} (F_are_pairs : Fd_are_pairs K fd_are_pairs) (G_are_pairs : FnOk PP w K mg base CX0 4 (ga K "are_pairs") fd_are_pairs ["value"] (spG (ga K) 1 phi_are_pairs)) {fd_stray : FuncData} (F_stray : Fd_stray K fd_stray) (G_stray : FnOk PP w K mg base CX0 3 (ga K "stray") fd_stray ["patterns", "pairs", "told"] (spG (ga K) 3 phi_stray)) : FnOk PP w K mg base CX0 5 (ma K (ga K "Rule") "__init__") fd ["self", "label", "head", "told", "pairs", "denied"] (spG (ga K) 6 phi_Rule_init) := by
  have b_is_name_1 : Binds K fd_is_name ["value"] [] := F_is_name.bindsN fun _ _ _ _ _ _ us hl => match us, hl with | [_], _ => rfl
  have b_is_pattern_1 : Binds K fd_is_pattern ["value"] [] := F_is_pattern.bindsN fun _ _ _ _ _ _ us hl => match us, hl with | [_], _ => rfl
  have b_are_patterns_1 : Binds K fd_are_patterns ["value"] [] := F_are_patterns.bindsN fun _ _ _ _ _ _ us hl => match us, hl with | [_], _ => rfl
  have b_are_pairs_1 : Binds K fd_are_pairs ["value"] [] := F_are_pairs.bindsN fun _ _ _ _ _ _ us hl => match us, hl with | [_], _ => rfl
  have b_stray_3 : Binds K fd_stray ["patterns", "pairs", "told"] [] := F_stray.bindsN fun _ _ _ _ _ _ us hl => match us, hl with | [_, _, _], _ => rfl
  haveI := T.fo_row
  refine okG F sc_Rule_init rfl (show runDefG m_Rule_init N_Rule_init.length = phi_Rule_init from rfl) ?_
  intro cdv A outer s H E hr
  have hu0 : (A.deeper (envOfC "Rule.__init__" (defScope d_m_Rule_init.st) s.heap.objs.size (ma K (ga K "Rule") "__init__") cdv)).units < cLine := by have := hr.un; omega
  have hu : (A.deeper (envOfC "Rule.__init__" (defScope d_m_Rule_init.st) s.heap.objs.size (ma K (ga K "Rule") "__init__") cdv)).units + 64 < cLine := by have := hr.un; omega
  have hu1 : (A.deeper (envOfC "Rule.__init__" (defScope d_m_Rule_init.st) s.heap.objs.size (ma K (ga K "Rule") "__init__") cdv)).units + 1 < cLine := by have := hr.un; omega
  have hv : (A.deeper (envOfC "Rule.__init__" (defScope d_m_Rule_init.st) s.heap.objs.size (ma K (ga K "Rule") "__init__") cdv)).units + 65 < cLine := by have := hr.un; omega
  refine ⟨_, PSs.nox (pss_cons (ps_if (pt_not (pt_val (pe_call G_is_name (hr.mono (by decide)) rfl (T.gl_is_name) F_is_name.kp b_is_name_1 .nil pass0 (pa_cons (pv 1) pa_nil)))) (pss_one ps_never) pss_nil)
      (pss_cons (ps_if (pt_not (pt_val (pe_call G_is_pattern (hr.mono (by decide)) rfl (T.gl_is_pattern) F_is_pattern.kp b_is_pattern_1 .nil pass0 (pa_cons (pv 2) pa_nil)))) (pss_one ps_never) pss_nil)
      (pss_cons (ps_if (pt_not (pt_val (pe_call G_are_patterns (hr.mono (by decide)) rfl (T.gl_are_patterns) F_are_patterns.kp b_are_patterns_1 .nil pass0 (pa_cons (pv 3) pa_nil)))) (pss_one ps_never) pss_nil)
      (pss_cons (ps_if (PW.pt (pw_and (pt_cmpR op_notN (pv 4) pe_non (nomark _)) (pw_and1 (pt_not (pt_val (pe_call G_are_pairs (hr.mono (by decide)) rfl (T.gl_are_pairs) F_are_pairs.kp b_are_pairs_1 .nil pass0 (pa_cons (pv 4) pa_nil))))))) (pss_one ps_never) pss_nil)
      (pss_cons (ps_if (PW.pt (pw_and (pt_cmpR op_notN (pv 5) pe_non (nomark _)) (pw_and1 (pt_not (pt_val (pe_call G_are_patterns (hr.mono (by decide)) rfl (T.gl_are_patterns) F_are_patterns.kp b_are_patterns_1 .nil pass0 (pa_cons (pv 5) pa_nil))))))) (pss_one ps_never) pss_nil)
      (pss_cons (ps_par (i := 6) (j := 7) rfl sc_Rule_init.nd rfl rfl (by decide) rfl rfl (pa_cons (pe_ifExp (pt_cmpR op_isN (pv 4) pe_non (nomark _)) (pe_lst pa_nil) (pv 4)) (pa_cons (pe_ifExp (pt_cmpR op_isN (pv 5) pe_non (nomark _)) (pe_lst pa_nil) (pv 5)) pa_nil)) (by kernel_rfl))
      (pss_cons (ps_if (pt_val (pe_call G_stray (hr.mono (by decide)) rfl (T.gl_stray) F_stray.kp b_stray_3 .nil pass0 (pa_cons (pe_lst (pa_cons (pv 2) pa_nil)) (pa_cons (pe_lst pa_nil) (pa_cons (pv 3) pa_nil))))) (pss_one ps_never) pss_nil)
      (pss_cons (ps_if (pt_val (pe_call G_stray (hr.mono (by decide)) rfl (T.gl_stray) F_stray.kp b_stray_3 .nil pass0 (pa_cons (pe_lst pa_nil) (pa_cons (pv 6) (pa_cons (pv 3) pa_nil))))) (pss_one ps_never) pss_nil)
      (pss_cons (ps_if (pt_val (pe_call G_stray (hr.mono (by decide)) rfl (T.gl_stray) F_stray.kp b_stray_3 .nil pass0 (pa_cons (pv 7) (pa_cons (pe_lst pa_nil) (pa_cons (pv 3) pa_nil))))) (pss_one ps_never) pss_nil)
      (pss_one (W.sfld K (pv 0) (pe_tup (pa_cons (pv 1) (pa_cons (pv 2) (pa_cons (pe_callTy (W.c_tuple K) rfl (T.fr_tuple) U.bo_tuple (pa_cons (pv 3) pa_nil)) (pa_cons (pe_callTy (W.c_tuple K) rfl (T.fr_tuple) U.bo_tuple (pa_cons (pv 6) pa_nil)) (pa_cons (pe_callTy (W.c_tuple K) rfl (T.fr_tuple) U.bo_tuple (pa_cons (pv 7) pa_nil)) pa_nil))))))))))))))))), ?_⟩
  unfold m_Rule_init
  try dsimp only [List.map, List.drop_succ_cons, List.drop_zero, List.length_cons, List.length_nil, Nat.reduceAdd, Nat.zero_add]
  infer_instance
abbrev N_Rule_eq : List PySem.Str := ["self", "other"]
theorem sc_Rule_eq : FnScope N_Rule_eq ["self", "other"] (defScope d_m_Rule_eq.st) := ⟨rfl, rfl, rfl, by decide +kernel, rfl, by decide +kernel, by decide +kernel⟩
def m_Rule_eq : MS := (mRet (mAndV (mIsO "Rule" (mVar 1)) (mOp dEqW (mFld "row" ["Rule", "Question"] (mVar 0)) (mFld "row" ["Rule", "Question"] (mVar 1)))))
def phi_Rule_eq : S → Option (D × S) := runDefG m_Rule_eq 2
theorem ok_Rule_eq (T : Txt K mg) {fd : FuncData} (F : Fd_Rule_eq K fd)  : FnOk PP w K mg base CX0 1 (ma K (ga K "Rule") "__eq__") fd ["self", "other"] (spG (ga K) 2 phi_Rule_eq) := by
  haveI := T.fo_row
  haveI := T.isc_Rule
  refine okG F sc_Rule_eq rfl (show runDefG m_Rule_eq N_Rule_eq.length = phi_Rule_eq from rfl) ?_
  intro cdv A outer s H E hr
  have hu0 : (A.deeper (envOfC "Rule.__eq__" (defScope d_m_Rule_eq.st) s.heap.objs.size (ma K (ga K "Rule") "__eq__") cdv)).units < cLine := by have := hr.un; omega
  have hu : (A.deeper (envOfC "Rule.__eq__" (defScope d_m_Rule_eq.st) s.heap.objs.size (ma K (ga K "Rule") "__eq__") cdv)).units + 64 < cLine := by have := hr.un; omega
  have hu1 : (A.deeper (envOfC "Rule.__eq__" (defScope d_m_Rule_eq.st) s.heap.objs.size (ma K (ga K "Rule") "__eq__") cdv)).units + 1 < cLine := by have := hr.un; omega
  have hv : (A.deeper (envOfC "Rule.__eq__" (defScope d_m_Rule_eq.st) s.heap.objs.size (ma K (ga K "Rule") "__eq__") cdv)).units + 65 < cLine := by have := hr.un; omega
  refine ⟨_, PSs.nox (pss_one (ps_ret (pe_and (pe_callB (UK.isi K) rfl (T.fr_isinstance) U.bo_isinstance (pa_cons (pv 1) (pa_cons (U.glob (T.gl_Rule)) pa_nil))) (pe_one (pe_cmpR (W.eq K hu) (W.fld K (pv 0)) (W.fld K (pv 1)) (nomark _)))))), ?_⟩
  unfold m_Rule_eq
  try dsimp only [List.map, List.drop_succ_cons, List.drop_zero, List.length_cons, List.length_nil, Nat.reduceAdd, Nat.zero_add]
  infer_instance
abbrev N_Rule_label : List PySem.Str := ["self"]
theorem sc_Rule_label : FnScope N_Rule_label ["self"] (defScope d_p_Rule_label.st) := ⟨rfl, rfl, rfl, by decide +kernel, rfl, by decide +kernel, by decide +kernel⟩
def m_Rule_label : MS := (mRet (mOp dIxW (mFld "row" ["Rule", "Question"] (mVar 0)) (mC (.int 0))))
def phi_Rule_label : S → Option (D × S) := runDefG m_Rule_label 1
theorem ok_Rule_label (T : Txt K mg) {fd : FuncData} (F : Fd_Rule_label K fd)  : FnOk PP w K mg base CX0 1 (pga K (ga K "Rule") "label") fd ["self"] (spG (ga K) 1 phi_Rule_label) := by
  haveI := T.fo_row
  refine okG F sc_Rule_label rfl (show runDefG m_Rule_label N_Rule_label.length = phi_Rule_label from rfl) ?_
  intro cdv A outer s H E hr
  have hu0 : (A.deeper (envOfC "Rule.label" (defScope d_p_Rule_label.st) s.heap.objs.size (pga K (ga K "Rule") "label") cdv)).units < cLine := by have := hr.un; omega
  have hu : (A.deeper (envOfC "Rule.label" (defScope d_p_Rule_label.st) s.heap.objs.size (pga K (ga K "Rule") "label") cdv)).units + 64 < cLine := by have := hr.un; omega
  have hu1 : (A.deeper (envOfC "Rule.label" (defScope d_p_Rule_label.st) s.heap.objs.size (pga K (ga K "Rule") "label") cdv)).units + 1 < cLine := by have := hr.un; omega
  have hv : (A.deeper (envOfC "Rule.label" (defScope d_p_Rule_label.st) s.heap.objs.size (pga K (ga K "Rule") "label") cdv)).units + 65 < cLine := by have := hr.un; omega
  refine ⟨_, PSs.nox (pss_one (ps_ret (pe_ix (W.ix K hu) (W.fld K (pv 0)) pe_int (fun _ _ => rfl)))), ?_⟩
  unfold m_Rule_label
  try dsimp only [List.map, List.drop_succ_cons, List.drop_zero, List.length_cons, List.length_nil, Nat.reduceAdd, Nat.zero_add]
  infer_instance
abbrev N_Rule_told : List PySem.Str := ["self"]
theorem sc_Rule_told : FnScope N_Rule_told ["self"] (defScope d_p_Rule_told.st) := ⟨rfl, rfl, rfl, by decide +kernel, rfl, by decide +kernel, by decide +kernel⟩
def m_Rule_told : MS := (mRet (mListC (mOp dIxW (mFld "row" ["Rule", "Question"] (mVar 0)) (mC (.int 2)))))
def phi_Rule_told : S → Option (D × S) := runDefG m_Rule_told 1
theorem ok_Rule_told (T : Txt K mg) {fd : FuncData} (F : Fd_Rule_told K fd)  : FnOk PP w K mg base CX0 1 (pga K (ga K "Rule") "told") fd ["self"] (spG (ga K) 1 phi_Rule_told) := by
  haveI := T.fo_row
  refine okG F sc_Rule_told rfl (show runDefG m_Rule_told N_Rule_told.length = phi_Rule_told from rfl) ?_
  intro cdv A outer s H E hr
  have hu0 : (A.deeper (envOfC "Rule.told" (defScope d_p_Rule_told.st) s.heap.objs.size (pga K (ga K "Rule") "told") cdv)).units < cLine := by have := hr.un; omega
  have hu : (A.deeper (envOfC "Rule.told" (defScope d_p_Rule_told.st) s.heap.objs.size (pga K (ga K "Rule") "told") cdv)).units + 64 < cLine := by have := hr.un; omega
  have hu1 : (A.deeper (envOfC "Rule.told" (defScope d_p_Rule_told.st) s.heap.objs.size (pga K (ga K "Rule") "told") cdv)).units + 1 < cLine := by have := hr.un; omega
  have hv : (A.deeper (envOfC "Rule.told" (defScope d_p_Rule_told.st) s.heap.objs.size (pga K (ga K "Rule") "told") cdv)).units + 65 < cLine := by have := hr.un; omega
  refine ⟨_, PSs.nox (pss_one (ps_ret (pe_callTy (W.c_list K) rfl (T.fr_list) U.bo_list (pa_cons (pe_ix (W.ix K hu) (W.fld K (pv 0)) pe_int (fun _ _ => rfl)) pa_nil)))), ?_⟩
  unfold m_Rule_told
  try dsimp only [List.map, List.drop_succ_cons, List.drop_zero, List.length_cons, List.length_nil, Nat.reduceAdd, Nat.zero_add]
  infer_instance
abbrev N_Rule_pairs : List PySem.Str := ["self"]
theorem sc_Rule_pairs : FnScope N_Rule_pairs ["self"] (defScope d_p_Rule_pairs.st) := ⟨rfl, rfl, rfl, by decide +kernel, rfl, by decide +kernel, by decide +kernel⟩
def m_Rule_pairs : MS := (mRet (mListC (mOp dIxW (mFld "row" ["Rule", "Question"] (mVar 0)) (mC (.int 3)))))
def phi_Rule_pairs : S → Option (D × S) := runDefG m_Rule_pairs 1
theorem ok_Rule_pairs (T : Txt K mg) {fd : FuncData} (F : Fd_Rule_pairs K fd)  : FnOk PP w K mg base CX0 1 (pga K (ga K "Rule") "pairs") fd ["self"] (spG (ga K) 1 phi_Rule_pairs) := by
  haveI := T.fo_row
  refine okG F sc_Rule_pairs rfl (show runDefG m_Rule_pairs N_Rule_pairs.length = phi_Rule_pairs from rfl) ?_
  intro cdv A outer s H E hr
  have hu0 : (A.deeper (envOfC "Rule.pairs" (defScope d_p_Rule_pairs.st) s.heap.objs.size (pga K (ga K "Rule") "pairs") cdv)).units < cLine := by have := hr.un; omega
  have hu : (A.deeper (envOfC "Rule.pairs" (defScope d_p_Rule_pairs.st) s.heap.objs.size (pga K (ga K "Rule") "pairs") cdv)).units + 64 < cLine := by have := hr.un; omega
  have hu1 : (A.deeper (envOfC "Rule.pairs" (defScope d_p_Rule_pairs.st) s.heap.objs.size (pga K (ga K "Rule") "pairs") cdv)).units + 1 < cLine := by have := hr.un; omega
  have hv : (A.deeper (envOfC "Rule.pairs" (defScope d_p_Rule_pairs.st) s.heap.objs.size (pga K (ga K "Rule") "pairs") cdv)).units + 65 < cLine := by have := hr.un; omega
  refine ⟨_, PSs.nox (pss_one (ps_ret (pe_callTy (W.c_list K) rfl (T.fr_list) U.bo_list (pa_cons (pe_ix (W.ix K hu) (W.fld K (pv 0)) pe_int (fun _ _ => rfl)) pa_nil)))), ?_⟩
  unfold m_Rule_pairs
  try dsimp only [List.map, List.drop_succ_cons, List.drop_zero, List.length_cons, List.length_nil, Nat.reduceAdd, Nat.zero_add]
  infer_instance
abbrev N_Rule_denied : List PySem.Str := ["self"]
theorem sc_Rule_denied : FnScope N_Rule_denied ["self"] (defScope d_p_Rule_denied.st) := ⟨rfl, rfl, rfl, by decide +kernel, rfl, by decide +kernel, by decide +kernel⟩
def m_Rule_denied : MS := (mRet (mListC (mOp dIxW (mFld "row" ["Rule", "Question"] (mVar 0)) (mC (.int 4)))))
def phi_Rule_denied : S → Option (D × S) := runDefG m_Rule_denied 1
theorem ok_Rule_denied (T : Txt K mg) {fd : FuncData} (F : Fd_Rule_denied K fd)  : FnOk PP w K mg base CX0 1 (pga K (ga K "Rule") "denied") fd ["self"] (spG (ga K) 1 phi_Rule_denied) := by
  haveI := T.fo_row
  refine okG F sc_Rule_denied rfl (show runDefG m_Rule_denied N_Rule_denied.length = phi_Rule_denied from rfl) ?_
  intro cdv A outer s H E hr
  have hu0 : (A.deeper (envOfC "Rule.denied" (defScope d_p_Rule_denied.st) s.heap.objs.size (pga K (ga K "Rule") "denied") cdv)).units < cLine := by have := hr.un; omega
  have hu : (A.deeper (envOfC "Rule.denied" (defScope d_p_Rule_denied.st) s.heap.objs.size (pga K (ga K "Rule") "denied") cdv)).units + 64 < cLine := by have := hr.un; omega
  have hu1 : (A.deeper (envOfC "Rule.denied" (defScope d_p_Rule_denied.st) s.heap.objs.size (pga K (ga K "Rule") "denied") cdv)).units + 1 < cLine := by have := hr.un; omega
  have hv : (A.deeper (envOfC "Rule.denied" (defScope d_p_Rule_denied.st) s.heap.objs.size (pga K (ga K "Rule") "denied") cdv)).units + 65 < cLine := by have := hr.un; omega
  refine ⟨_, PSs.nox (pss_one (ps_ret (pe_callTy (W.c_list K) rfl (T.fr_list) U.bo_list (pa_cons (pe_ix (W.ix K hu) (W.fld K (pv 0)) pe_int (fun _ _ => rfl)) pa_nil)))), ?_⟩
  unfold m_Rule_denied
  try dsimp only [List.map, List.drop_succ_cons, List.drop_zero, List.length_cons, List.length_nil, Nat.reduceAdd, Nat.zero_add]
  infer_instance
abbrev N_Question_init : List PySem.Str := ["self", "columns", "told", "pairs", "part", "some"]
theorem sc_Question_init : FnScope N_Question_init ["self", "columns", "told", "pairs"] (defScope d_m_Question_init.st) := ⟨rfl, rfl, rfl, by decide +kernel, rfl, by decide +kernel, by decide +kernel⟩
def m_Question_init : MS := (mSeq (mIfS (mOr (mNot (mT (mIsT "list" (mVar 1)))) (mT (mOp dNeW (mLc (itL (mVar 1)) (tgN 4) [4] (mNot (mT (mCallG 1 phi_is_variable (mGD (mVar 4) mGNil)))) (mVar 4) [4]) (mLst mNil)))) mStuck mSkip) (mSeq (mIfS (mNot (mT (mCallG 1 phi_are_patterns (mGD (mVar 2) mGNil)))) mStuck mSkip) (mSeq (mIfS (mAnd (mT (mOp dNotN (mVar 3) (mC .non))) (mNot (mT (mCallG 1 phi_are_pairs (mGD (mVar 3) mGNil))))) mStuck mSkip) (mSeq (mSet 5 (mIf (mT (mOp dIsN (mVar 3) (mC .non))) (mLst mNil) (mVar 3))) (mSeq (mIfS (mT (mOp dNeW (mLc (itL (mVar 1)) (tgN 4) [4] (mT (mOp dNiW (mVar 4) (mCallG 1 phi_variables_of (mGD (mVar 2) mGNil)))) (mVar 4) [4]) (mLst mNil))) mStuck mSkip) (mSeq (mIfS (mT (mCallG 3 phi_stray (mGD (mLst mNil) (mGD (mVar 5) (mGD (mVar 2) mGNil))))) mStuck mSkip) (mSetF 0 "row" ["Rule", "Question"] (mTup (mCons (mTupC (mVar 1)) (mCons (mTupC (mVar 2)) (mCons (mTupC (mVar 5)) mNil)))))))))))
def phi_Question_init : S → Option (D × S) := runDefG m_Question_init 6
theorem ok_Question_init (T : Txt K mg) {fd : FuncData} (F : Fd_Question_init K fd) {fd_is_variable : FuncData} (F_is_variable : Fd_is_variable K fd_is_variable) (G_is_variable : FnOk PP w K mg base CX0 1 (ga K "is_variable") fd_is_variable ["value"] (spG (ga K) 1 phi_is_variable)) {fd_are_patterns : FuncData} (F_are_patterns : Fd_are_patterns K fd_are_patterns) (G_are_patterns : FnOk PP w K mg base CX0 4 (ga K "are_patterns") fd_are_patterns ["value"] (spG (ga K) 1 phi_are_patterns)) {fd_are_pairs : FuncData} (F_are_pairs : Fd_are_pairs K fd_are_pairs) (G_are_pairs : FnOk PP w K mg base CX0 4 (ga K "are_pairs") fd_are_pairs ["value"] (spG (ga K) 1 phi_are_pairs)) {fd_variables_of : FuncData} (F_variables_of : Fd_variables_of K fd_variables_of) (G_variables_of : FnOk PP w K mg base CX0 2 (ga K "variables_of") fd_variables_of ["patterns"] (spG (ga K) 1 phi_variables_of)) {fd_stray : FuncData} (F_stray : Fd_stray K fd_stray) (G_stray : FnOk PP w K mg base CX0 3 (ga K "stray") fd_stray ["patterns", "pairs", "told"] (spG (ga K) 3 phi_stray)) : FnOk PP w K mg base CX0 5 (ma K (ga K "Question") "__init__") fd ["self", "columns", "told", "pairs"] (spG (ga K) 4 phi_Question_init) := by
  have b_is_variable_1 : Binds K fd_is_variable ["value"] [] := F_is_variable.bindsN fun _ _ _ _ _ _ us hl => match us, hl with | [_], _ => rfl
  have b_are_patterns_1 : Binds K fd_are_patterns ["value"] [] := F_are_patterns.bindsN fun _ _ _ _ _ _ us hl => match us, hl with | [_], _ => rfl
  have b_are_pairs_1 : Binds K fd_are_pairs ["value"] [] := F_are_pairs.bindsN fun _ _ _ _ _ _ us hl => match us, hl with | [_], _ => rfl
  have b_variables_of_1 : Binds K fd_variables_of ["patterns"] [] := F_variables_of.bindsN fun _ _ _ _ _ _ us hl => match us, hl with | [_], _ => rfl
  have b_stray_3 : Binds K fd_stray ["patterns", "pairs", "told"] [] := F_stray.bindsN fun _ _ _ _ _ _ us hl => match us, hl with | [_, _, _], _ => rfl
  haveI := T.fo_row
  refine okG F sc_Question_init rfl (show runDefG m_Question_init N_Question_init.length = phi_Question_init from rfl) ?_
  intro cdv A outer s H E hr
  have hu0 : (A.deeper (envOfC "Question.__init__" (defScope d_m_Question_init.st) s.heap.objs.size (ma K (ga K "Question") "__init__") cdv)).units < cLine := by have := hr.un; omega
  have hu : (A.deeper (envOfC "Question.__init__" (defScope d_m_Question_init.st) s.heap.objs.size (ma K (ga K "Question") "__init__") cdv)).units + 64 < cLine := by have := hr.un; omega
  have hu1 : (A.deeper (envOfC "Question.__init__" (defScope d_m_Question_init.st) s.heap.objs.size (ma K (ga K "Question") "__init__") cdv)).units + 1 < cLine := by have := hr.un; omega
  have hv : (A.deeper (envOfC "Question.__init__" (defScope d_m_Question_init.st) s.heap.objs.size (ma K (ga K "Question") "__init__") cdv)).units + 65 < cLine := by have := hr.un; omega
  refine ⟨_, PSs.nox (pss_cons (ps_if (PW.pt (pw_or (pt_not (pt_val (pe_callB (UK.isi K) rfl (T.fr_isinstance) U.bo_isinstance (pa_cons (pv 1) (pa_cons (U.bty (T.fr_list) U.bo_list) pa_nil))))) (pw_or1 (pt_cmpR (W.ne K hu) (pe_lc (own := [("part", 4)]) rfl sc_Question_init.nd (W.itAll K (pv 1)) (blkOk_by (by kernel_rfl)) (fun _ _ _ _ _ => (pg_name (i := 4) sc_Question_init.nd rfl (by first | exact Or.inl rfl | exact Or.inr rfl))) (fun _ _ _ _ _ => (pts_one (pt_not (pt_val (pe_call G_is_variable (hr.mono (by decide)) rfl (T.gl_is_variable) F_is_variable.kp b_is_variable_1 .nil pass0 (pa_cons (pv 4) pa_nil)))))) (fun _ _ _ _ _ => (pv 4))) (pe_lst pa_nil) (nomark _))))) (pss_one ps_never) pss_nil)
      (pss_cons (ps_if (pt_not (pt_val (pe_call G_are_patterns (hr.mono (by decide)) rfl (T.gl_are_patterns) F_are_patterns.kp b_are_patterns_1 .nil pass0 (pa_cons (pv 2) pa_nil)))) (pss_one ps_never) pss_nil)
      (pss_cons (ps_if (PW.pt (pw_and (pt_cmpR op_notN (pv 3) pe_non (nomark _)) (pw_and1 (pt_not (pt_val (pe_call G_are_pairs (hr.mono (by decide)) rfl (T.gl_are_pairs) F_are_pairs.kp b_are_pairs_1 .nil pass0 (pa_cons (pv 3) pa_nil))))))) (pss_one ps_never) pss_nil)
      (pss_cons (ps_set (i := 5) sc_Question_init.nd rfl (by first | exact Or.inl rfl | exact Or.inr rfl) (pe_ifExp (pt_cmpR op_isN (pv 3) pe_non (nomark _)) (pe_lst pa_nil) (pv 3)))
      (pss_cons (ps_if (pt_cmpR (W.ne K hu) (pe_lc (own := [("part", 4)]) rfl sc_Question_init.nd (W.itAll K (pv 1)) (blkOk_by (by kernel_rfl)) (fun _ _ _ _ _ => (pg_name (i := 4) sc_Question_init.nd rfl (by first | exact Or.inl rfl | exact Or.inr rfl))) (fun _ _ _ _ _ => (pts_one (pt_cmpR (W.notIn K hv) (pv 4) (pe_call G_variables_of (hr.mono (by decide)) rfl (T.gl_variables_of) F_variables_of.kp b_variables_of_1 .nil pass0 (pa_cons (pv 2) pa_nil)) rfl))) (fun _ _ _ _ _ => (pv 4))) (pe_lst pa_nil) (nomark _)) (pss_one ps_never) pss_nil)
      (pss_cons (ps_if (pt_val (pe_call G_stray (hr.mono (by decide)) rfl (T.gl_stray) F_stray.kp b_stray_3 .nil pass0 (pa_cons (pe_lst pa_nil) (pa_cons (pv 5) (pa_cons (pv 2) pa_nil))))) (pss_one ps_never) pss_nil)
      (pss_one (W.sfld K (pv 0) (pe_tup (pa_cons (pe_callTy (W.c_tuple K) rfl (T.fr_tuple) U.bo_tuple (pa_cons (pv 1) pa_nil)) (pa_cons (pe_callTy (W.c_tuple K) rfl (T.fr_tuple) U.bo_tuple (pa_cons (pv 2) pa_nil)) (pa_cons (pe_callTy (W.c_tuple K) rfl (T.fr_tuple) U.bo_tuple (pa_cons (pv 5) pa_nil)) pa_nil)))))))))))), ?_⟩
  unfold m_Question_init
  try dsimp only [List.map, List.drop_succ_cons, List.drop_zero, List.length_cons, List.length_nil, Nat.reduceAdd, Nat.zero_add]
  infer_instance
abbrev N_Question_eq : List PySem.Str := ["self", "other"]
theorem sc_Question_eq : FnScope N_Question_eq ["self", "other"] (defScope d_m_Question_eq.st) := ⟨rfl, rfl, rfl, by decide +kernel, rfl, by decide +kernel, by decide +kernel⟩
def m_Question_eq : MS := (mRet (mAndV (mIsO "Question" (mVar 1)) (mOp dEqW (mFld "row" ["Rule", "Question"] (mVar 0)) (mFld "row" ["Rule", "Question"] (mVar 1)))))
def phi_Question_eq : S → Option (D × S) := runDefG m_Question_eq 2
theorem ok_Question_eq (T : Txt K mg) {fd : FuncData} (F : Fd_Question_eq K fd)  : FnOk PP w K mg base CX0 1 (ma K (ga K "Question") "__eq__") fd ["self", "other"] (spG (ga K) 2 phi_Question_eq) := by
  haveI := T.fo_row
  haveI := T.isc_Question
  refine okG F sc_Question_eq rfl (show runDefG m_Question_eq N_Question_eq.length = phi_Question_eq from rfl) ?_
  intro cdv A outer s H E hr
  have hu0 : (A.deeper (envOfC "Question.__eq__" (defScope d_m_Question_eq.st) s.heap.objs.size (ma K (ga K "Question") "__eq__") cdv)).units < cLine := by have := hr.un; omega
  have hu : (A.deeper (envOfC "Question.__eq__" (defScope d_m_Question_eq.st) s.heap.objs.size (ma K (ga K "Question") "__eq__") cdv)).units + 64 < cLine := by have := hr.un; omega
  have hu1 : (A.deeper (envOfC "Question.__eq__" (defScope d_m_Question_eq.st) s.heap.objs.size (ma K (ga K "Question") "__eq__") cdv)).units + 1 < cLine := by have := hr.un; omega
  have hv : (A.deeper (envOfC "Question.__eq__" (defScope d_m_Question_eq.st) s.heap.objs.size (ma K (ga K "Question") "__eq__") cdv)).units + 65 < cLine := by have := hr.un; omega
  refine ⟨_, PSs.nox (pss_one (ps_ret (pe_and (pe_callB (UK.isi K) rfl (T.fr_isinstance) U.bo_isinstance (pa_cons (pv 1) (pa_cons (U.glob (T.gl_Question)) pa_nil))) (pe_one (pe_cmpR (W.eq K hu) (W.fld K (pv 0)) (W.fld K (pv 1)) (nomark _)))))), ?_⟩
  unfold m_Question_eq
  try dsimp only [List.map, List.drop_succ_cons, List.drop_zero, List.length_cons, List.length_nil, Nat.reduceAdd, Nat.zero_add]
  infer_instance
abbrev N_Question_told : List PySem.Str := ["self"]
theorem sc_Question_told : FnScope N_Question_told ["self"] (defScope d_p_Question_told.st) := ⟨rfl, rfl, rfl, by decide +kernel, rfl, by decide +kernel, by decide +kernel⟩
def m_Question_told : MS := (mRet (mListC (mOp dIxW (mFld "row" ["Rule", "Question"] (mVar 0)) (mC (.int 1)))))
def phi_Question_told : S → Option (D × S) := runDefG m_Question_told 1
theorem ok_Question_told (T : Txt K mg) {fd : FuncData} (F : Fd_Question_told K fd)  : FnOk PP w K mg base CX0 1 (pga K (ga K "Question") "told") fd ["self"] (spG (ga K) 1 phi_Question_told) := by
  haveI := T.fo_row
  refine okG F sc_Question_told rfl (show runDefG m_Question_told N_Question_told.length = phi_Question_told from rfl) ?_
  intro cdv A outer s H E hr
  have hu0 : (A.deeper (envOfC "Question.told" (defScope d_p_Question_told.st) s.heap.objs.size (pga K (ga K "Question") "told") cdv)).units < cLine := by have := hr.un; omega
  have hu : (A.deeper (envOfC "Question.told" (defScope d_p_Question_told.st) s.heap.objs.size (pga K (ga K "Question") "told") cdv)).units + 64 < cLine := by have := hr.un; omega
  have hu1 : (A.deeper (envOfC "Question.told" (defScope d_p_Question_told.st) s.heap.objs.size (pga K (ga K "Question") "told") cdv)).units + 1 < cLine := by have := hr.un; omega
  have hv : (A.deeper (envOfC "Question.told" (defScope d_p_Question_told.st) s.heap.objs.size (pga K (ga K "Question") "told") cdv)).units + 65 < cLine := by have := hr.un; omega
  refine ⟨_, PSs.nox (pss_one (ps_ret (pe_callTy (W.c_list K) rfl (T.fr_list) U.bo_list (pa_cons (pe_ix (W.ix K hu) (W.fld K (pv 0)) pe_int (fun _ _ => rfl)) pa_nil)))), ?_⟩
  unfold m_Question_told
  try dsimp only [List.map, List.drop_succ_cons, List.drop_zero, List.length_cons, List.length_nil, Nat.reduceAdd, Nat.zero_add]
  infer_instance
abbrev N_Question_pairs : List PySem.Str := ["self"]
theorem sc_Question_pairs : FnScope N_Question_pairs ["self"] (defScope d_p_Question_pairs.st) := ⟨rfl, rfl, rfl, by decide +kernel, rfl, by decide +kernel, by decide +kernel⟩
def m_Question_pairs : MS := (mRet (mListC (mOp dIxW (mFld "row" ["Rule", "Question"] (mVar 0)) (mC (.int 2)))))
def phi_Question_pairs : S → Option (D × S) := runDefG m_Question_pairs 1
theorem ok_Question_pairs (T : Txt K mg) {fd : FuncData} (F : Fd_Question_pairs K fd)  : FnOk PP w K mg base CX0 1 (pga K (ga K "Question") "pairs") fd ["self"] (spG (ga K) 1 phi_Question_pairs) := by
  haveI := T.fo_row
  refine okG F sc_Question_pairs rfl (show runDefG m_Question_pairs N_Question_pairs.length = phi_Question_pairs from rfl) ?_
  intro cdv A outer s H E hr
  have hu0 : (A.deeper (envOfC "Question.pairs" (defScope d_p_Question_pairs.st) s.heap.objs.size (pga K (ga K "Question") "pairs") cdv)).units < cLine := by have := hr.un; omega
  have hu : (A.deeper (envOfC "Question.pairs" (defScope d_p_Question_pairs.st) s.heap.objs.size (pga K (ga K "Question") "pairs") cdv)).units + 64 < cLine := by have := hr.un; omega
  have hu1 : (A.deeper (envOfC "Question.pairs" (defScope d_p_Question_pairs.st) s.heap.objs.size (pga K (ga K "Question") "pairs") cdv)).units + 1 < cLine := by have := hr.un; omega
  have hv : (A.deeper (envOfC "Question.pairs" (defScope d_p_Question_pairs.st) s.heap.objs.size (pga K (ga K "Question") "pairs") cdv)).units + 65 < cLine := by have := hr.un; omega
  refine ⟨_, PSs.nox (pss_one (ps_ret (pe_callTy (W.c_list K) rfl (T.fr_list) U.bo_list (pa_cons (pe_ix (W.ix K hu) (W.fld K (pv 0)) pe_int (fun _ _ => rfl)) pa_nil)))), ?_⟩
  unfold m_Question_pairs
  try dsimp only [List.map, List.drop_succ_cons, List.drop_zero, List.length_cons, List.length_nil, Nat.reduceAdd, Nat.zero_add]
  infer_instance
abbrev N_Book_init : List PySem.Str := ["self", "rules", "rule"]
theorem sc_Book_init : FnScope N_Book_init ["self", "rules"] (defScope d_m_Book_init.st) := ⟨rfl, rfl, rfl, by decide +kernel, rfl, by decide +kernel, by decide +kernel⟩
def m_Book_init : MS := (mSeq (mIfS (mOr (mNot (mT (mIsT "list" (mVar 1)))) (mT (mOp dNeW (mLc (itL (mVar 1)) (tgN 2) [2] (mNot (mT (mIsO "Rule" (mVar 2)))) (mVar 2) [2]) (mLst mNil)))) mStuck mSkip) (mSeq (mIfS (mT (mOp dNeW (mLenSet (mLc (itL (mVar 1)) (tgN 2) [2] mYes (mOp dIxW (mFld "row" ["Rule", "Question"] (mVar 2)) (mC (.int 0))) [2])) (mCB dLen (mCons (mVar 1) mNil)))) mStuck mSkip) (mSeq (mSetF 0 "all" ["Book"] (mTupC (mVar 1))) (mSetF 0 "every" ["Book"] (mLc (itL (mVar 1)) (tgN 2) [2] mYes (mFld "row" ["Rule", "Question"] (mVar 2)) [2])))))
def phi_Book_init : S → Option (D × S) := runDefG m_Book_init 3
theorem ok_Book_init (T : Txt K mg) {fd : FuncData} (F : Fd_Book_init K fd)  : FnOk PP w K mg base CX0 1 (ma K (ga K "Book") "__init__") fd ["self", "rules"] (spG (ga K) 2 phi_Book_init) := by
  haveI := T.fo_all
  haveI := T.fo_every
  haveI := T.fo_row
  haveI := T.isc_Rule
  refine okG F sc_Book_init rfl (show runDefG m_Book_init N_Book_init.length = phi_Book_init from rfl) ?_
  intro cdv A outer s H E hr
  have hu0 : (A.deeper (envOfC "Book.__init__" (defScope d_m_Book_init.st) s.heap.objs.size (ma K (ga K "Book") "__init__") cdv)).units < cLine := by have := hr.un; omega
  have hu : (A.deeper (envOfC "Book.__init__" (defScope d_m_Book_init.st) s.heap.objs.size (ma K (ga K "Book") "__init__") cdv)).units + 64 < cLine := by have := hr.un; omega
  have hu1 : (A.deeper (envOfC "Book.__init__" (defScope d_m_Book_init.st) s.heap.objs.size (ma K (ga K "Book") "__init__") cdv)).units + 1 < cLine := by have := hr.un; omega
  have hv : (A.deeper (envOfC "Book.__init__" (defScope d_m_Book_init.st) s.heap.objs.size (ma K (ga K "Book") "__init__") cdv)).units + 65 < cLine := by have := hr.un; omega
  refine ⟨_, PSs.nox (pss_cons (ps_if (PW.pt (pw_or (pt_not (pt_val (pe_callB (UK.isi K) rfl (T.fr_isinstance) U.bo_isinstance (pa_cons (pv 1) (pa_cons (U.bty (T.fr_list) U.bo_list) pa_nil))))) (pw_or1 (pt_cmpR (W.ne K hu) (pe_lc (own := [("rule", 2)]) rfl sc_Book_init.nd (W.itAll K (pv 1)) (blkOk_by (by kernel_rfl)) (fun _ _ _ _ _ => (pg_name (i := 2) sc_Book_init.nd rfl (by first | exact Or.inl rfl | exact Or.inr rfl))) (fun _ _ _ _ _ => (pts_one (pt_not (pt_val (pe_callB (UK.isi K) rfl (T.fr_isinstance) U.bo_isinstance (pa_cons (pv 2) (pa_cons (U.glob (T.gl_Rule)) pa_nil))))))) (fun _ _ _ _ _ => (pv 2))) (pe_lst pa_nil) (nomark _))))) (pss_one ps_never) pss_nil)
      (pss_cons (ps_if (pt_cmpR (W.ne K hu) (W.lenSet K (T.fr_len) (T.fr_set) hu (pe_lc (own := [("rule", 2)]) rfl sc_Book_init.nd (W.itAll K (pv 1)) (blkOk_by (by kernel_rfl)) (fun _ _ _ _ _ => (pg_name (i := 2) sc_Book_init.nd rfl (by first | exact Or.inl rfl | exact Or.inr rfl))) (fun _ _ _ _ _ => pts_nil) (fun _ _ _ _ _ => (pe_ix (W.ix K hu) (W.fld K (pv 2)) pe_int (fun _ _ => rfl))))) (pe_callB (UK.c_len K) rfl (T.fr_len) U.bo_len (pa_cons (pv 1) pa_nil)) (nomark _)) (pss_one ps_never) pss_nil)
      (pss_cons (W.sfld K (pv 0) (pe_callTy (W.c_tuple K) rfl (T.fr_tuple) U.bo_tuple (pa_cons (pv 1) pa_nil)))
      (pss_one (W.sfld K (pv 0) (pe_lc (own := [("rule", 2)]) rfl sc_Book_init.nd (W.itAll K (pv 1)) (blkOk_by (by kernel_rfl)) (fun _ _ _ _ _ => (pg_name (i := 2) sc_Book_init.nd rfl (by first | exact Or.inl rfl | exact Or.inr rfl))) (fun _ _ _ _ _ => pts_nil) (fun _ _ _ _ _ => (W.fld K (pv 2))))))))), ?_⟩
  unfold m_Book_init
  try dsimp only [List.map, List.drop_succ_cons, List.drop_zero, List.length_cons, List.length_nil, Nat.reduceAdd, Nat.zero_add]
  infer_instance
abbrev N_Book_eq : List PySem.Str := ["self", "other"]
theorem sc_Book_eq : FnScope N_Book_eq ["self", "other"] (defScope d_m_Book_eq.st) := ⟨rfl, rfl, rfl, by decide +kernel, rfl, by decide +kernel, by decide +kernel⟩
def m_Book_eq : MS := (mRet (mAndV (mIsO "Book" (mVar 1)) (mOp dEqW (mFld "every" ["Book"] (mVar 0)) (mFld "every" ["Book"] (mVar 1)))))
def phi_Book_eq : S → Option (D × S) := runDefG m_Book_eq 2
theorem ok_Book_eq (T : Txt K mg) {fd : FuncData} (F : Fd_Book_eq K fd)  : FnOk PP w K mg base CX0 1 (ma K (ga K "Book") "__eq__") fd ["self", "other"] (spG (ga K) 2 phi_Book_eq) := by
  haveI := T.fo_every
  haveI := T.isc_Book
  refine okG F sc_Book_eq rfl (show runDefG m_Book_eq N_Book_eq.length = phi_Book_eq from rfl) ?_
  intro cdv A outer s H E hr
  have hu0 : (A.deeper (envOfC "Book.__eq__" (defScope d_m_Book_eq.st) s.heap.objs.size (ma K (ga K "Book") "__eq__") cdv)).units < cLine := by have := hr.un; omega
  have hu : (A.deeper (envOfC "Book.__eq__" (defScope d_m_Book_eq.st) s.heap.objs.size (ma K (ga K "Book") "__eq__") cdv)).units + 64 < cLine := by have := hr.un; omega
  have hu1 : (A.deeper (envOfC "Book.__eq__" (defScope d_m_Book_eq.st) s.heap.objs.size (ma K (ga K "Book") "__eq__") cdv)).units + 1 < cLine := by have := hr.un; omega
  have hv : (A.deeper (envOfC "Book.__eq__" (defScope d_m_Book_eq.st) s.heap.objs.size (ma K (ga K "Book") "__eq__") cdv)).units + 65 < cLine := by have := hr.un; omega
  refine ⟨_, PSs.nox (pss_one (ps_ret (pe_and (pe_callB (UK.isi K) rfl (T.fr_isinstance) U.bo_isinstance (pa_cons (pv 1) (pa_cons (U.glob (T.gl_Book)) pa_nil))) (pe_one (pe_cmpR (W.eq K hu) (W.fld K (pv 0)) (W.fld K (pv 1)) (nomark _)))))), ?_⟩
  unfold m_Book_eq
  try dsimp only [List.map, List.drop_succ_cons, List.drop_zero, List.length_cons, List.length_nil, Nat.reduceAdd, Nat.zero_add]
  infer_instance
abbrev N_Book_rule : List PySem.Str := ["self", "label", "rule"]
theorem sc_Book_rule : FnScope N_Book_rule ["self", "label"] (defScope d_m_Book_rule.st) := ⟨rfl, rfl, rfl, by decide +kernel, rfl, by decide +kernel, by decide +kernel⟩
def m_Book_rule : MS := (mSeq (mFor (itL (mFld "all" ["Book"] (mVar 0))) (tgN 2) (mIfS (mAnd (mT (mIsT "str" (mVar 1))) (mT (mOp dEqW (mProp "Rule" phi_Rule_label (mVar 2)) (mVar 1)))) (mRet (mVar 2)) mSkip)) mStuck)
def phi_Book_rule : S → Option (D × S) := runDefG m_Book_rule 3
theorem ok_Book_rule (T : Txt K mg) {fd : FuncData} (F : Fd_Book_rule K fd) {fd_Rule_label : FuncData} (F_Rule_label : Fd_Rule_label K fd_Rule_label) (G_Rule_label : FnOk PP w K mg base CX0 1 (pga K (ga K "Rule") "label") fd_Rule_label ["self"] (spG (ga K) 1 phi_Rule_label)) : FnOk PP w K mg base CX0 3 (ma K (ga K "Book") "rule") fd ["self", "label"] (spG (ga K) 2 phi_Book_rule) := by
  have b_Rule_label_1 : Binds K fd_Rule_label ["self"] [] := F_Rule_label.bindsN fun _ _ _ _ _ _ us hl => match us, hl with | [_], _ => rfl
  haveI := T.fo_all
  refine okG F sc_Book_rule rfl (show runDefG m_Book_rule N_Book_rule.length = phi_Book_rule from rfl) ?_
  intro cdv A outer s H E hr
  have hu0 : (A.deeper (envOfC "Book.rule" (defScope d_m_Book_rule.st) s.heap.objs.size (ma K (ga K "Book") "rule") cdv)).units < cLine := by have := hr.un; omega
  have hu : (A.deeper (envOfC "Book.rule" (defScope d_m_Book_rule.st) s.heap.objs.size (ma K (ga K "Book") "rule") cdv)).units + 64 < cLine := by have := hr.un; omega
  have hu1 : (A.deeper (envOfC "Book.rule" (defScope d_m_Book_rule.st) s.heap.objs.size (ma K (ga K "Book") "rule") cdv)).units + 1 < cLine := by have := hr.un; omega
  have hv : (A.deeper (envOfC "Book.rule" (defScope d_m_Book_rule.st) s.heap.objs.size (ma K (ga K "Book") "rule") cdv)).units + 65 < cLine := by have := hr.un; omega
  refine ⟨_, PSs.nox (pss_cons (ps_for PassesOwn.never rfl (W.itAll K (W.fld K (pv 0))) (pg_name (i := 2) sc_Book_rule.nd rfl (by first | exact Or.inl rfl | exact Or.inr rfl)) (pss_one (ps_if (PW.pt (pw_and (pt_val (pe_callB (UK.isi K) rfl (T.fr_isinstance) U.bo_isinstance (pa_cons (pv 1) (pa_cons (U.bty (T.fr_str) U.bo_str) pa_nil)))) (pw_and1 (pt_cmpR (W.eq K hu) (pe_prop (ds := []) (dvs := []) (pv 2) (T.cls_Rule) (T.pr_Rule_label) G_Rule_label (hr.mono (by decide)) b_Rule_label_1 .nil pass0 rfl) (pv 1) (nomark _))))) (pss_one (ps_ret (pv 2))) pss_nil)))
      (pss_one ps_never)), ?_⟩
  unfold m_Book_rule
  try dsimp only [List.map, List.drop_succ_cons, List.drop_zero, List.length_cons, List.length_nil, Nat.reduceAdd, Nat.zero_add]
  infer_instance
abbrev N_Book_without : List PySem.Str := ["self", "label", "gone", "rule"]
theorem sc_Book_without : FnScope N_Book_without ["self", "label"] (defScope d_m_Book_without.st) := ⟨rfl, rfl, rfl, by decide +kernel, rfl, by decide +kernel, by decide +kernel⟩
def m_Book_without : MS := (mSeq (mSet 2 (mMeth "Book" "rule" 2 phi_Book_rule (mVar 0) (mGD (mVar 1) mGNil))) (mRet (objM (mMake "Book" 2 phi_Book_init [] (mGD (mLc (itL (mFld "all" ["Book"] (mVar 0))) (tgN 3) [3] (mT (mOp dNeW (mProp "Rule" phi_Rule_label (mVar 3)) (mProp "Rule" phi_Rule_label (mVar 2)))) (mVar 3) [3]) mGNil)))))
def phi_Book_without : S → Option (D × S) := runDefG m_Book_without 4
theorem ok_Book_without (T : Txt K mg) {fd : FuncData} (F : Fd_Book_without K fd) {fd_Book_rule : FuncData} (F_Book_rule : Fd_Book_rule K fd_Book_rule) (G_Book_rule : FnOk PP w K mg base CX0 3 (ma K (ga K "Book") "rule") fd_Book_rule ["self", "label"] (spG (ga K) 2 phi_Book_rule)) {fd_Book_init : FuncData} (F_Book_init : Fd_Book_init K fd_Book_init) (G_Book_init : FnOk PP w K mg base CX0 1 (ma K (ga K "Book") "__init__") fd_Book_init ["self", "rules"] (spG (ga K) 2 phi_Book_init)) {fd_Rule_label : FuncData} (F_Rule_label : Fd_Rule_label K fd_Rule_label) (G_Rule_label : FnOk PP w K mg base CX0 1 (pga K (ga K "Rule") "label") fd_Rule_label ["self"] (spG (ga K) 1 phi_Rule_label)) : FnOk PP w K mg base CX0 4 (ma K (ga K "Book") "without") fd ["self", "label"] (spG (ga K) 2 phi_Book_without) := by
  have b_Book_rule_2 : Binds K fd_Book_rule ["self", "label"] [] := F_Book_rule.bindsN fun _ _ _ _ _ _ us hl => match us, hl with | [_, _], _ => rfl
  have b_Book_init_2 : Binds K fd_Book_init ["self", "rules"] [] := F_Book_init.bindsN fun _ _ _ _ _ _ us hl => match us, hl with | [_, _], _ => rfl
  have b_Rule_label_1 : Binds K fd_Rule_label ["self"] [] := F_Rule_label.bindsN fun _ _ _ _ _ _ us hl => match us, hl with | [_], _ => rfl
  haveI := T.fo_all
  refine okG F sc_Book_without rfl (show runDefG m_Book_without N_Book_without.length = phi_Book_without from rfl) ?_
  intro cdv A outer s H E hr
  have hu0 : (A.deeper (envOfC "Book.without" (defScope d_m_Book_without.st) s.heap.objs.size (ma K (ga K "Book") "without") cdv)).units < cLine := by have := hr.un; omega
  have hu : (A.deeper (envOfC "Book.without" (defScope d_m_Book_without.st) s.heap.objs.size (ma K (ga K "Book") "without") cdv)).units + 64 < cLine := by have := hr.un; omega
  have hu1 : (A.deeper (envOfC "Book.without" (defScope d_m_Book_without.st) s.heap.objs.size (ma K (ga K "Book") "without") cdv)).units + 1 < cLine := by have := hr.un; omega
  have hv : (A.deeper (envOfC "Book.without" (defScope d_m_Book_without.st) s.heap.objs.size (ma K (ga K "Book") "without") cdv)).units + 65 < cLine := by have := hr.un; omega
  refine ⟨_, PSs.nox (pss_cons (ps_set (i := 2) sc_Book_without.nd rfl (by first | exact Or.inl rfl | exact Or.inr rfl) (pe_meth (pv 0) (T.cls_Book) (T.me_Book_rule) G_Book_rule (hr.mono (by decide)) b_Book_rule_2 .nil pass0 (pa_cons (pv 1) pa_nil)))
      (pss_one (ps_ret (pe_make (T.mk_Book) G_Book_init (hr.mono (by decide)) rfl (T.gl_Book) b_Book_init_2 .nil pass0 (pa_cons (pe_lc (own := [("rule", 3)]) rfl sc_Book_without.nd (W.itAll K (W.fld K (pv 0))) (blkOk_by (by kernel_rfl)) (fun _ _ _ _ _ => (pg_name (i := 3) sc_Book_without.nd rfl (by first | exact Or.inl rfl | exact Or.inr rfl))) (fun _ _ _ _ _ => (pts_one (pt_cmpR (W.ne K hu) (pe_prop (ds := []) (dvs := []) (pv 3) (T.cls_Rule) (T.pr_Rule_label) G_Rule_label (hr.mono (by decide)) b_Rule_label_1 .nil pass0 rfl) (pe_prop (ds := []) (dvs := []) (pv 2) (T.cls_Rule) (T.pr_Rule_label) G_Rule_label (hr.mono (by decide)) b_Rule_label_1 .nil pass0 rfl) (nomark _)))) (fun _ _ _ _ _ => (pv 3))) pa_nil))))), ?_⟩
  unfold m_Book_without
  try dsimp only [List.map, List.drop_succ_cons, List.drop_zero, List.length_cons, List.length_nil, Nat.reduceAdd, Nat.zero_add]
  infer_instance
abbrev N_check_fact : List PySem.Str := ["value"]
theorem sc_check_fact : FnScope N_check_fact ["value"] (defScope d_g_check_fact.st) := ⟨rfl, rfl, rfl, by decide +kernel, rfl, by decide +kernel, by decide +kernel⟩
def m_check_fact : MS := (mIfS (mNot (mT (mCallG 1 phi_is_fact (mGD (mVar 0) mGNil)))) mStuck mSkip)
def phi_check_fact : S → Option (D × S) := runDefG m_check_fact 1
theorem ok_check_fact (T : Txt K mg) {fd : FuncData} (F : Fd_check_fact K fd) {fd_is_fact : FuncData} (F_is_fact : Fd_is_fact K fd_is_fact) (G_is_fact : FnOk PP w K mg base CX0 4 (ga K "is_fact") fd_is_fact ["value"] (spG (ga K) 1 phi_is_fact)) : FnOk PP w K mg base CX0 5 (ga K "check_fact") fd ["value"] (spG (ga K) 1 phi_check_fact) := by
  have b_is_fact_1 : Binds K fd_is_fact ["value"] [] := F_is_fact.bindsN fun _ _ _ _ _ _ us hl => match us, hl with | [_], _ => rfl
  refine okG F sc_check_fact rfl (show runDefG m_check_fact N_check_fact.length = phi_check_fact from rfl) ?_
  intro cdv A outer s H E hr
  have hu0 : (A.deeper (envOfC "check_fact" (defScope d_g_check_fact.st) s.heap.objs.size (ga K "check_fact") cdv)).units < cLine := by have := hr.un; omega
  have hu : (A.deeper (envOfC "check_fact" (defScope d_g_check_fact.st) s.heap.objs.size (ga K "check_fact") cdv)).units + 64 < cLine := by have := hr.un; omega
  have hu1 : (A.deeper (envOfC "check_fact" (defScope d_g_check_fact.st) s.heap.objs.size (ga K "check_fact") cdv)).units + 1 < cLine := by have := hr.un; omega
  have hv : (A.deeper (envOfC "check_fact" (defScope d_g_check_fact.st) s.heap.objs.size (ga K "check_fact") cdv)).units + 65 < cLine := by have := hr.un; omega
  refine ⟨_, PSs.nox (pss_one (ps_if (pt_not (pt_val (pe_call G_is_fact (hr.mono (by decide)) rfl (T.gl_is_fact) F_is_fact.kp b_is_fact_1 .nil pass0 (pa_cons (pv 0) pa_nil)))) (pss_one ps_never) pss_nil)), ?_⟩
  unfold m_check_fact
  try dsimp only [List.map, List.drop_succ_cons, List.drop_zero, List.length_cons, List.length_nil, Nat.reduceAdd, Nat.zero_add]
  infer_instance
abbrev N_check_question : List PySem.Str := ["value"]
theorem sc_check_question : FnScope N_check_question ["value"] (defScope d_g_check_question.st) := ⟨rfl, rfl, rfl, by decide +kernel, rfl, by decide +kernel, by decide +kernel⟩
def m_check_question : MS := (mIfS (mNot (mT (mIsO "Question" (mVar 0)))) mStuck mSkip)
def phi_check_question : S → Option (D × S) := runDefG m_check_question 1
theorem ok_check_question (T : Txt K mg) {fd : FuncData} (F : Fd_check_question K fd)  : FnOk PP w K mg base CX0 1 (ga K "check_question") fd ["value"] (spG (ga K) 1 phi_check_question) := by
  haveI := T.isc_Question
  refine okG F sc_check_question rfl (show runDefG m_check_question N_check_question.length = phi_check_question from rfl) ?_
  intro cdv A outer s H E hr
  have hu0 : (A.deeper (envOfC "check_question" (defScope d_g_check_question.st) s.heap.objs.size (ga K "check_question") cdv)).units < cLine := by have := hr.un; omega
  have hu : (A.deeper (envOfC "check_question" (defScope d_g_check_question.st) s.heap.objs.size (ga K "check_question") cdv)).units + 64 < cLine := by have := hr.un; omega
  have hu1 : (A.deeper (envOfC "check_question" (defScope d_g_check_question.st) s.heap.objs.size (ga K "check_question") cdv)).units + 1 < cLine := by have := hr.un; omega
  have hv : (A.deeper (envOfC "check_question" (defScope d_g_check_question.st) s.heap.objs.size (ga K "check_question") cdv)).units + 65 < cLine := by have := hr.un; omega
  refine ⟨_, PSs.nox (pss_one (ps_if (pt_not (pt_val (pe_callB (UK.isi K) rfl (T.fr_isinstance) U.bo_isinstance (pa_cons (pv 0) (pa_cons (U.glob (T.gl_Question)) pa_nil))))) (pss_one ps_never) pss_nil)), ?_⟩
  unfold m_check_question
  try dsimp only [List.map, List.drop_succ_cons, List.drop_zero, List.length_cons, List.length_nil, Nat.reduceAdd, Nat.zero_add]
  infer_instance
abbrev N_check_store : List PySem.Str := ["value"]
theorem sc_check_store : FnScope N_check_store ["value"] (defScope d_g_check_store.st) := ⟨rfl, rfl, rfl, by decide +kernel, rfl, by decide +kernel, by decide +kernel⟩
def m_check_store : MS := (mIfS (mNot (mT (mCallG 1 phi_is_store (mGD (mVar 0) mGNil)))) mStuck mSkip)
def phi_check_store : S → Option (D × S) := runDefG m_check_store 1
theorem ok_check_store (T : Txt K mg) {fd : FuncData} (F : Fd_check_store K fd) {fd_is_store : FuncData} (F_is_store : Fd_is_store K fd_is_store) (G_is_store : FnOk PP w K mg base CX0 5 (ga K "is_store") fd_is_store ["value"] (spG (ga K) 1 phi_is_store)) : FnOk PP w K mg base CX0 6 (ga K "check_store") fd ["value"] (spG (ga K) 1 phi_check_store) := by
  have b_is_store_1 : Binds K fd_is_store ["value"] [] := F_is_store.bindsN fun _ _ _ _ _ _ us hl => match us, hl with | [_], _ => rfl
  refine okG F sc_check_store rfl (show runDefG m_check_store N_check_store.length = phi_check_store from rfl) ?_
  intro cdv A outer s H E hr
  have hu0 : (A.deeper (envOfC "check_store" (defScope d_g_check_store.st) s.heap.objs.size (ga K "check_store") cdv)).units < cLine := by have := hr.un; omega
  have hu : (A.deeper (envOfC "check_store" (defScope d_g_check_store.st) s.heap.objs.size (ga K "check_store") cdv)).units + 64 < cLine := by have := hr.un; omega
  have hu1 : (A.deeper (envOfC "check_store" (defScope d_g_check_store.st) s.heap.objs.size (ga K "check_store") cdv)).units + 1 < cLine := by have := hr.un; omega
  have hv : (A.deeper (envOfC "check_store" (defScope d_g_check_store.st) s.heap.objs.size (ga K "check_store") cdv)).units + 65 < cLine := by have := hr.un; omega
  refine ⟨_, PSs.nox (pss_one (ps_if (pt_not (pt_val (pe_call G_is_store (hr.mono (by decide)) rfl (T.gl_is_store) F_is_store.kp b_is_store_1 .nil pass0 (pa_cons (pv 0) pa_nil)))) (pss_one ps_never) pss_nil)), ?_⟩
  unfold m_check_store
  try dsimp only [List.map, List.drop_succ_cons, List.drop_zero, List.length_cons, List.length_nil, Nat.reduceAdd, Nat.zero_add]
  infer_instance
abbrev N_led_on : List PySem.Str := ["names", "pattern", "fact", "found", "part", "name"]
theorem sc_led_on : FnScope N_led_on ["names", "pattern", "fact"] (defScope d_g_led_on.st) := ⟨rfl, rfl, rfl, by decide +kernel, rfl, by decide +kernel, by decide +kernel⟩
def m_led_on : MS := (mSeq (mSetO 3 (mDictC (mVar 0))) (mSeq (mFor (itZ (mCons (mSl (mVar 1) (mPart (mC (.int 1))) mNo) (mCons (mSl (mVar 2) (mPart (mC (.int 1))) mNo) mNil))) (tg2 (tgN 4) (tgN 5)) (mIfS (mNot (mT (mCallG 1 phi_is_variable (mGD (mVar 4) mGNil)))) (mIfS (mT (mOp dNeW (mVar 4) (mVar 5))) (mRet (mC .non)) mSkip) (mIfS (mT (mOp dNeW (mGet2O 3 (mVar 4) (mVar 5)) (mVar 5))) (mRet (mC .non)) (mPutD 3 (mVar 4) (mVar 5))))) (mFixD 3 (mRet (mVar 3)))))
def phi_led_on : S → Option (D × S) := runDefG m_led_on 6
theorem ok_led_on (T : Txt K mg) {fd : FuncData} (F : Fd_led_on K fd) {fd_is_variable : FuncData} (F_is_variable : Fd_is_variable K fd_is_variable) (G_is_variable : FnOk PP w K mg base CX0 1 (ga K "is_variable") fd_is_variable ["value"] (spG (ga K) 1 phi_is_variable)) : FnOk PP w K mg base CX0 2 (ga K "led_on") fd ["names", "pattern", "fact"] (spG (ga K) 3 phi_led_on) := by
  have b_is_variable_1 : Binds K fd_is_variable ["value"] [] := F_is_variable.bindsN fun _ _ _ _ _ _ us hl => match us, hl with | [_], _ => rfl
  refine okG F sc_led_on rfl (show runDefG m_led_on N_led_on.length = phi_led_on from rfl) ?_
  intro cdv A outer s H E hr
  have hu0 : (A.deeper (envOfC "led_on" (defScope d_g_led_on.st) s.heap.objs.size (ga K "led_on") cdv)).units < cLine := by have := hr.un; omega
  have hu : (A.deeper (envOfC "led_on" (defScope d_g_led_on.st) s.heap.objs.size (ga K "led_on") cdv)).units + 64 < cLine := by have := hr.un; omega
  have hu1 : (A.deeper (envOfC "led_on" (defScope d_g_led_on.st) s.heap.objs.size (ga K "led_on") cdv)).units + 1 < cLine := by have := hr.un; omega
  have hv : (A.deeper (envOfC "led_on" (defScope d_g_led_on.st) s.heap.objs.size (ga K "led_on") cdv)).units + 65 < cLine := by have := hr.un; omega
  refine ⟨_, PSs.nox (pss_cons (ps_set (i := 3) sc_led_on.nd rfl (by first | exact Or.inl rfl | exact Or.inr rfl) (pe_callTy W.c_dict rfl (T.fr_dict) U.bo_dict (pa_cons (pv 0) pa_nil)))
      (pss_cons (ps_for PassesOwn.never rfl (W.zip K (T.fr_zip) (pa_cons (pe_slice (UK.sl K) (pv 1) (po_some pe_int) po_none) (pa_cons (pe_slice (UK.sl K) (pv 2) (po_some pe_int) po_none) pa_nil))) (W.tup K 2 (pgs_cons (pg_name (i := 4) sc_led_on.nd rfl (by first | exact Or.inl rfl | exact Or.inr rfl)) (pgs_cons (pg_name (i := 5) sc_led_on.nd rfl (by first | exact Or.inl rfl | exact Or.inr rfl)) pgs_nil))) (pss_one (ps_if (pt_not (pt_val (pe_call G_is_variable (hr.mono (by decide)) rfl (T.gl_is_variable) F_is_variable.kp b_is_variable_1 .nil pass0 (pa_cons (pv 4) pa_nil)))) (pss_one (ps_if (pt_cmpR (W.ne K hu) (pv 4) (pv 5) (nomark _)) (pss_one (ps_ret pe_non)) pss_nil)) (pss_one (ps_if (pt_cmpR (W.ne K hu) (pe_dget2 hu1 (pv 3) (pv 4) (pv 5) ⟨rfl, rfl, rfl, rfl⟩) (pv 5) (nomark _)) (pss_one (ps_ret pe_non)) (pss_one (ps_dput hu1 (pv 3) (pv 4) (pv 5) rfl)))))))
      (pss_frz (i := 3) (pss_one (ps_ret (pv 3)))))), ?_⟩
  unfold m_led_on
  try dsimp only [List.map, List.drop_succ_cons, List.drop_zero, List.length_cons, List.length_nil, Nat.reduceAdd, Nat.zero_add]
  infer_instance
abbrev N_keeps_apart : List PySem.Str := ["names", "pairs", "one", "other"]
theorem sc_keeps_apart : FnScope N_keeps_apart ["names", "pairs"] (defScope d_g_keeps_apart.st) := ⟨rfl, rfl, rfl, by decide +kernel, rfl, by decide +kernel, by decide +kernel⟩
def m_keeps_apart : MS := (mRet (mOp dEqW (mLc (itL (mVar 1)) (tg2 (tgN 2) (tgN 3)) ([2] ++ [3]) (mT (mOp dEqW (mGet2 (mVar 0) (mVar 2) (mVar 2)) (mGet2 (mVar 0) (mVar 3) (mVar 3)))) (mVar 2) [2, 3]) (mLst mNil)))
def phi_keeps_apart : S → Option (D × S) := runDefG m_keeps_apart 4
theorem ok_keeps_apart (T : Txt K mg) {fd : FuncData} (F : Fd_keeps_apart K fd)  : FnOk PP w K mg base CX0 1 (ga K "keeps_apart") fd ["names", "pairs"] (spG (ga K) 2 phi_keeps_apart) := by
  refine okG F sc_keeps_apart rfl (show runDefG m_keeps_apart N_keeps_apart.length = phi_keeps_apart from rfl) ?_
  intro cdv A outer s H E hr
  have hu0 : (A.deeper (envOfC "keeps_apart" (defScope d_g_keeps_apart.st) s.heap.objs.size (ga K "keeps_apart") cdv)).units < cLine := by have := hr.un; omega
  have hu : (A.deeper (envOfC "keeps_apart" (defScope d_g_keeps_apart.st) s.heap.objs.size (ga K "keeps_apart") cdv)).units + 64 < cLine := by have := hr.un; omega
  have hu1 : (A.deeper (envOfC "keeps_apart" (defScope d_g_keeps_apart.st) s.heap.objs.size (ga K "keeps_apart") cdv)).units + 1 < cLine := by have := hr.un; omega
  have hv : (A.deeper (envOfC "keeps_apart" (defScope d_g_keeps_apart.st) s.heap.objs.size (ga K "keeps_apart") cdv)).units + 65 < cLine := by have := hr.un; omega
  refine ⟨_, PSs.nox (pss_one (ps_ret (pe_cmpR (W.eq K hu) (pe_lc (own := [("one", 2), ("other", 3)]) rfl sc_keeps_apart.nd (W.itAll K (pv 1)) (blkOk_by (by kernel_rfl)) (fun _ _ _ _ _ => (W.tup K 2 (pgs_cons (pg_name (i := 2) sc_keeps_apart.nd rfl (by first | exact Or.inl rfl | exact Or.inr rfl)) (pgs_cons (pg_name (i := 3) sc_keeps_apart.nd rfl (by first | exact Or.inl rfl | exact Or.inr rfl)) pgs_nil)))) (fun _ _ _ _ _ => (pts_one (pt_cmpR (W.eq K hu) (pe_dget2 hu1 (pv 0) (pv 2) (pv 2) ⟨rfl, rfl, rfl, rfl⟩) (pe_dget2 hu1 (pv 0) (pv 3) (pv 3) ⟨rfl, rfl, rfl, rfl⟩) (nomark _)))) (fun _ _ _ _ _ => (pv 2))) (pe_lst pa_nil) (nomark _)))), ?_⟩
  unfold m_keeps_apart
  try dsimp only [List.map, List.drop_succ_cons, List.drop_zero, List.length_cons, List.length_nil, Nat.reduceAdd, Nat.zero_add]
  infer_instance
abbrev N_matches_of : List PySem.Str := ["told", "pairs", "denied", "facts", "matches", "pattern", "some", "fact", "longer", "names", "more"]
theorem sc_matches_of : FnScope N_matches_of ["told", "pairs", "denied", "facts"] (defScope d_g_matches_of.st) := ⟨rfl, rfl, rfl, by decide +kernel, rfl, by decide +kernel, by decide +kernel⟩
def m_matches_of : MS := (mSeq (mSet 4 (mLst (mCons (mFrz mDNew) mNil))) (mSeq (mFor (itL (mVar 0)) (tgN 5) (mSeq (mSet 6 (mLc (itL (mVar 3)) (tgN 7) [7] (mT (mOp dEqW (mCallG 1 phi_kind_of (mGD (mVar 7) mGNil)) (mCallG 1 phi_kind_of (mGD (mVar 5) mGNil)))) (mVar 7) [7])) (mSeq (mSetO 8 (mLst mNil)) (mSeq (mFor (itL (mVar 4)) (tgN 9) (mFor (itL (mVar 6)) (tgN 7) (mSeq (mSet 10 (mCallG 3 phi_led_on (mGD (mVar 9) (mGD (mVar 5) (mGD (mVar 7) mGNil))))) (mIfS (mT (mOp dNotN (mVar 10) (mC .non))) (mApp 8 (mVar 10)) mSkip)))) (mFix 8 (mSet 4 (mVar 8))))))) (mSeq (mSet 4 (mLc (itL (mVar 4)) (tgN 9) [9] (mT (mCallG 2 phi_keeps_apart (mGD (mVar 9) (mGD (mVar 1) mGNil)))) (mVar 9) [9])) (mRet (mLc (itL (mVar 4)) (tgN 9) [9] (mT (mOp dEqW (mLc (itL (mVar 2)) (tgN 5) [5] (mT (mOp dInW (mCallG 2 phi_filled (mGD (mVar 5) (mGD (mVar 9) mGNil))) (mVar 3))) (mVar 5) [5]) (mLst mNil))) (mVar 9) [9])))))
def phi_matches_of : S → Option (D × S) := runDefG m_matches_of 11
theorem ok_matches_of (T : Txt K mg) {fd : FuncData} (F : Fd_matches_of K fd) {fd_kind_of : FuncData} (F_kind_of : Fd_kind_of K fd_kind_of) (G_kind_of : FnOk PP w K mg base CX0 1 (ga K "kind_of") fd_kind_of ["pattern"] (spG (ga K) 1 phi_kind_of)) {fd_led_on : FuncData} (F_led_on : Fd_led_on K fd_led_on) (G_led_on : FnOk PP w K mg base CX0 2 (ga K "led_on") fd_led_on ["names", "pattern", "fact"] (spG (ga K) 3 phi_led_on)) {fd_keeps_apart : FuncData} (F_keeps_apart : Fd_keeps_apart K fd_keeps_apart) (G_keeps_apart : FnOk PP w K mg base CX0 1 (ga K "keeps_apart") fd_keeps_apart ["names", "pairs"] (spG (ga K) 2 phi_keeps_apart)) {fd_filled : FuncData} (F_filled : Fd_filled K fd_filled) (G_filled : FnOk PP w K mg base CX0 1 (ga K "filled") fd_filled ["pattern", "names"] (spG (ga K) 2 phi_filled)) : FnOk PP w K mg base CX0 3 (ga K "matches_of") fd ["told", "pairs", "denied", "facts"] (spG (ga K) 4 phi_matches_of) := by
  have b_kind_of_1 : Binds K fd_kind_of ["pattern"] [] := F_kind_of.bindsN fun _ _ _ _ _ _ us hl => match us, hl with | [_], _ => rfl
  have b_led_on_3 : Binds K fd_led_on ["names", "pattern", "fact"] [] := F_led_on.bindsN fun _ _ _ _ _ _ us hl => match us, hl with | [_, _, _], _ => rfl
  have b_keeps_apart_2 : Binds K fd_keeps_apart ["names", "pairs"] [] := F_keeps_apart.bindsN fun _ _ _ _ _ _ us hl => match us, hl with | [_, _], _ => rfl
  have b_filled_2 : Binds K fd_filled ["pattern", "names"] [] := F_filled.bindsN fun _ _ _ _ _ _ us hl => match us, hl with | [_, _], _ => rfl
  refine okG F sc_matches_of rfl (show runDefG m_matches_of N_matches_of.length = phi_matches_of from rfl) ?_
  intro cdv A outer s H E hr
  have hu0 : (A.deeper (envOfC "matches_of" (defScope d_g_matches_of.st) s.heap.objs.size (ga K "matches_of") cdv)).units < cLine := by have := hr.un; omega
  have hu : (A.deeper (envOfC "matches_of" (defScope d_g_matches_of.st) s.heap.objs.size (ga K "matches_of") cdv)).units + 64 < cLine := by have := hr.un; omega
  have hu1 : (A.deeper (envOfC "matches_of" (defScope d_g_matches_of.st) s.heap.objs.size (ga K "matches_of") cdv)).units + 1 < cLine := by have := hr.un; omega
  have hv : (A.deeper (envOfC "matches_of" (defScope d_g_matches_of.st) s.heap.objs.size (ga K "matches_of") cdv)).units + 65 < cLine := by have := hr.un; omega
  refine ⟨_, PSs.nox (pss_cons (ps_set (i := 4) sc_matches_of.nd rfl (by first | exact Or.inl rfl | exact Or.inr rfl) (pe_lst (pa_cons (pe_frz pe_dnewK) pa_nil)))
      (pss_cons (ps_for PassesOwn.never rfl (W.itAll K (pv 0)) (pg_name (i := 5) sc_matches_of.nd rfl (by first | exact Or.inl rfl | exact Or.inr rfl)) (pss_cons (ps_setLc (i := 6) (own := [("fact", 7)]) rfl sc_matches_of.nd rfl rfl (sw_true rfl rfl rfl (by decide +kernel)) (W.itAll K (pv 3)) (blkOk_by (by kernel_rfl)) (fun _ _ _ _ _ => (pg_name (i := 7) sc_matches_of.nd rfl (by first | exact Or.inl rfl | exact Or.inr rfl))) (fun _ _ _ _ _ => (pts_one (pt_cmpR (W.eq K hu) (pe_call G_kind_of (hr.mono (by decide)) rfl (T.gl_kind_of) F_kind_of.kp b_kind_of_1 .nil pass0 (pa_cons (pv 7) pa_nil)) (pe_call G_kind_of (hr.mono (by decide)) rfl (T.gl_kind_of) F_kind_of.kp b_kind_of_1 .nil pass0 (pa_cons (pv 5) pa_nil)) (nomark _)))) (fun _ _ _ _ _ => (pv 7)))
      (pss_cons (ps_set (i := 8) sc_matches_of.nd rfl (by first | exact Or.inl rfl | exact Or.inr rfl) (pe_lst pa_nil))
      (pss_cons (ps_for PassesOwn.never rfl (W.itAll K (pv 4)) (pg_name (i := 9) sc_matches_of.nd rfl (by first | exact Or.inl rfl | exact Or.inr rfl)) (pss_one (ps_for PassesOwn.never rfl (W.itAll K (pv 6)) (pg_name (i := 7) sc_matches_of.nd rfl (by first | exact Or.inl rfl | exact Or.inr rfl)) (pss_cons (ps_set (i := 10) sc_matches_of.nd rfl (by first | exact Or.inl rfl | exact Or.inr rfl) (pe_call G_led_on (hr.mono (by decide)) rfl (T.gl_led_on) F_led_on.kp b_led_on_3 .nil pass0 (pa_cons (pv 9) (pa_cons (pv 5) (pa_cons (pv 7) pa_nil)))))
      (pss_one (ps_if (pt_cmpR op_notN (pv 10) pe_non (nomark _)) (pss_one (ps_expr (pe_bm PySem.F.plainAttrs_list PySem.F.slot_list_append PySem.F.type_list_append mt_append (pv 8) (pa_cons (pv 10) pa_nil)))) pss_nil))))))
      (pss_one (ps_set (i := 4) sc_matches_of.nd rfl (by first | exact Or.inl rfl | exact Or.inr rfl) (pv 8)))))))
      (pss_cons (ps_setLc (i := 4) (own := [("names", 9)]) rfl sc_matches_of.nd rfl rfl (sw_true rfl rfl rfl (by decide +kernel)) (W.itAll K (pv 4)) (blkOk_by (by kernel_rfl)) (fun _ _ _ _ _ => (pg_name (i := 9) sc_matches_of.nd rfl (by first | exact Or.inl rfl | exact Or.inr rfl))) (fun _ _ _ _ _ => (pts_one (pt_val (pe_call G_keeps_apart (hr.mono (by decide)) rfl (T.gl_keeps_apart) F_keeps_apart.kp b_keeps_apart_2 .nil pass0 (pa_cons (pv 9) (pa_cons (pv 1) pa_nil)))))) (fun _ _ _ _ _ => (pv 9)))
      (pss_one (ps_ret (pe_lc (own := [("names", 9)]) rfl sc_matches_of.nd (W.itAll K (pv 4)) (blkOk_by (by kernel_rfl)) (fun _ _ _ _ _ => (pg_name (i := 9) sc_matches_of.nd rfl (by first | exact Or.inl rfl | exact Or.inr rfl))) (fun _ _ _ _ _ => (pts_one (pt_cmpR (W.eq K hu) (pe_lc (own := [("pattern", 5)]) rfl sc_matches_of.nd (W.itAll K (pv 2)) (blkOk_by (by kernel_rfl)) (fun _ _ _ _ _ => (pg_name (i := 5) sc_matches_of.nd rfl (by first | exact Or.inl rfl | exact Or.inr rfl))) (fun _ _ _ _ _ => (pts_one (pt_cmpR (W.isIn K hv) (pe_call G_filled (hr.mono (by decide)) rfl (T.gl_filled) F_filled.kp b_filled_2 .nil pass0 (pa_cons (pv 5) (pa_cons (pv 9) pa_nil))) (pv 3) rfl))) (fun _ _ _ _ _ => (pv 5))) (pe_lst pa_nil) (nomark _)))) (fun _ _ _ _ _ => (pv 9)))))))), ?_⟩
  unfold m_matches_of
  try dsimp only [List.map, List.drop_succ_cons, List.drop_zero, List.length_cons, List.length_nil, Nat.reduceAdd, Nat.zero_add]
  infer_instance
abbrev N_matches_in : List PySem.Str := ["thing", "facts"]
theorem sc_matches_in : FnScope N_matches_in ["thing", "facts"] (defScope d_g_matches_in.st) := ⟨rfl, rfl, rfl, by decide +kernel, rfl, by decide +kernel, by decide +kernel⟩
def m_matches_in : MS := (mRet (mCallG 4 phi_matches_of (mGD (mOrE (mProp "Rule" phi_Rule_told (mVar 0)) (mProp "Question" phi_Question_told (mVar 0))) (mGD (mOrE (mProp "Rule" phi_Rule_pairs (mVar 0)) (mProp "Question" phi_Question_pairs (mVar 0))) (mGD (mIf (mT (mIsO "Question" (mVar 0))) (mLst mNil) (mProp "Rule" phi_Rule_denied (mVar 0))) (mGD (mVar 1) mGNil))))))
def phi_matches_in : S → Option (D × S) := runDefG m_matches_in 2
theorem ok_matches_in (T : Txt K mg) {fd : FuncData} (F : Fd_matches_in K fd) {fd_matches_of : FuncData} (F_matches_of : Fd_matches_of K fd_matches_of) (G_matches_of : FnOk PP w K mg base CX0 3 (ga K "matches_of") fd_matches_of ["told", "pairs", "denied", "facts"] (spG (ga K) 4 phi_matches_of)) {fd_Rule_denied : FuncData} (F_Rule_denied : Fd_Rule_denied K fd_Rule_denied) (G_Rule_denied : FnOk PP w K mg base CX0 1 (pga K (ga K "Rule") "denied") fd_Rule_denied ["self"] (spG (ga K) 1 phi_Rule_denied)) {fd_Rule_pairs : FuncData} (F_Rule_pairs : Fd_Rule_pairs K fd_Rule_pairs) (G_Rule_pairs : FnOk PP w K mg base CX0 1 (pga K (ga K "Rule") "pairs") fd_Rule_pairs ["self"] (spG (ga K) 1 phi_Rule_pairs)) {fd_Question_pairs : FuncData} (F_Question_pairs : Fd_Question_pairs K fd_Question_pairs) (G_Question_pairs : FnOk PP w K mg base CX0 1 (pga K (ga K "Question") "pairs") fd_Question_pairs ["self"] (spG (ga K) 1 phi_Question_pairs)) {fd_Rule_told : FuncData} (F_Rule_told : Fd_Rule_told K fd_Rule_told) (G_Rule_told : FnOk PP w K mg base CX0 1 (pga K (ga K "Rule") "told") fd_Rule_told ["self"] (spG (ga K) 1 phi_Rule_told)) {fd_Question_told : FuncData} (F_Question_told : Fd_Question_told K fd_Question_told) (G_Question_told : FnOk PP w K mg base CX0 1 (pga K (ga K "Question") "told") fd_Question_told ["self"] (spG (ga K) 1 phi_Question_told)) : FnOk PP w K mg base CX0 4 (ga K "matches_in") fd ["thing", "facts"] (spG (ga K) 2 phi_matches_in) := by
  have b_matches_of_4 : Binds K fd_matches_of ["told", "pairs", "denied", "facts"] [] := F_matches_of.bindsN fun _ _ _ _ _ _ us hl => match us, hl with | [_, _, _, _], _ => rfl
  have b_Rule_denied_1 : Binds K fd_Rule_denied ["self"] [] := F_Rule_denied.bindsN fun _ _ _ _ _ _ us hl => match us, hl with | [_], _ => rfl
  have b_Rule_pairs_1 : Binds K fd_Rule_pairs ["self"] [] := F_Rule_pairs.bindsN fun _ _ _ _ _ _ us hl => match us, hl with | [_], _ => rfl
  have b_Question_pairs_1 : Binds K fd_Question_pairs ["self"] [] := F_Question_pairs.bindsN fun _ _ _ _ _ _ us hl => match us, hl with | [_], _ => rfl
  have b_Rule_told_1 : Binds K fd_Rule_told ["self"] [] := F_Rule_told.bindsN fun _ _ _ _ _ _ us hl => match us, hl with | [_], _ => rfl
  have b_Question_told_1 : Binds K fd_Question_told ["self"] [] := F_Question_told.bindsN fun _ _ _ _ _ _ us hl => match us, hl with | [_], _ => rfl
  haveI := T.isc_Question
  refine okG F sc_matches_in rfl (show runDefG m_matches_in N_matches_in.length = phi_matches_in from rfl) ?_
  intro cdv A outer s H E hr
  have hu0 : (A.deeper (envOfC "matches_in" (defScope d_g_matches_in.st) s.heap.objs.size (ga K "matches_in") cdv)).units < cLine := by have := hr.un; omega
  have hu : (A.deeper (envOfC "matches_in" (defScope d_g_matches_in.st) s.heap.objs.size (ga K "matches_in") cdv)).units + 64 < cLine := by have := hr.un; omega
  have hu1 : (A.deeper (envOfC "matches_in" (defScope d_g_matches_in.st) s.heap.objs.size (ga K "matches_in") cdv)).units + 1 < cLine := by have := hr.un; omega
  have hv : (A.deeper (envOfC "matches_in" (defScope d_g_matches_in.st) s.heap.objs.size (ga K "matches_in") cdv)).units + 65 < cLine := by have := hr.un; omega
  refine ⟨_, PSs.nox (pss_one (ps_ret (pe_call G_matches_of (hr.mono (by decide)) rfl (T.gl_matches_of) F_matches_of.kp b_matches_of_4 .nil pass0 (pa_cons (pe_or2 (pe_prop (ds := []) (dvs := []) (pv 0) (T.cls_Rule) (T.pr_Rule_told) G_Rule_told (hr.mono (by decide)) b_Rule_told_1 .nil pass0 rfl) (pe_prop (ds := []) (dvs := []) (pv 0) (T.cls_Question) (T.pr_Question_told) G_Question_told (hr.mono (by decide)) b_Question_told_1 .nil pass0 rfl)) (pa_cons (pe_or2 (pe_prop (ds := []) (dvs := []) (pv 0) (T.cls_Rule) (T.pr_Rule_pairs) G_Rule_pairs (hr.mono (by decide)) b_Rule_pairs_1 .nil pass0 rfl) (pe_prop (ds := []) (dvs := []) (pv 0) (T.cls_Question) (T.pr_Question_pairs) G_Question_pairs (hr.mono (by decide)) b_Question_pairs_1 .nil pass0 rfl)) (pa_cons (pe_ifExp (pt_val (pe_callB (UK.isi K) rfl (T.fr_isinstance) U.bo_isinstance (pa_cons (pv 0) (pa_cons (U.glob (T.gl_Question)) pa_nil)))) (pe_lst pa_nil) (pe_prop (ds := []) (dvs := []) (pv 0) (T.cls_Rule) (T.pr_Rule_denied) G_Rule_denied (hr.mono (by decide)) b_Rule_denied_1 .nil pass0 rfl)) (pa_cons (pv 1) pa_nil))))))), ?_⟩
  unfold m_matches_in
  try dsimp only [List.map, List.drop_succ_cons, List.drop_zero, List.length_cons, List.length_nil, Nat.reduceAdd, Nat.zero_add]
  infer_instance
abbrev N_match_names : List PySem.Str := ["told", "names", "part"]
theorem sc_match_names : FnScope N_match_names ["told", "names"] (defScope d_g_match_names.st) := ⟨rfl, rfl, rfl, by decide +kernel, rfl, by decide +kernel, by decide +kernel⟩
def m_match_names : MS := (mRet (mTupC (mLc (itL (mCallG 1 phi_variables_of (mGD (mVar 0) mGNil))) (tgN 2) [2] mYes (mOp dIxW (mVar 1) (mVar 2)) [2])))
def phi_match_names : S → Option (D × S) := runDefG m_match_names 3
theorem ok_match_names (T : Txt K mg) {fd : FuncData} (F : Fd_match_names K fd) {fd_variables_of : FuncData} (F_variables_of : Fd_variables_of K fd_variables_of) (G_variables_of : FnOk PP w K mg base CX0 2 (ga K "variables_of") fd_variables_of ["patterns"] (spG (ga K) 1 phi_variables_of)) : FnOk PP w K mg base CX0 3 (ga K "match_names") fd ["told", "names"] (spG (ga K) 2 phi_match_names) := by
  have b_variables_of_1 : Binds K fd_variables_of ["patterns"] [] := F_variables_of.bindsN fun _ _ _ _ _ _ us hl => match us, hl with | [_], _ => rfl
  refine okG F sc_match_names rfl (show runDefG m_match_names N_match_names.length = phi_match_names from rfl) ?_
  intro cdv A outer s H E hr
  have hu0 : (A.deeper (envOfC "match_names" (defScope d_g_match_names.st) s.heap.objs.size (ga K "match_names") cdv)).units < cLine := by have := hr.un; omega
  have hu : (A.deeper (envOfC "match_names" (defScope d_g_match_names.st) s.heap.objs.size (ga K "match_names") cdv)).units + 64 < cLine := by have := hr.un; omega
  have hu1 : (A.deeper (envOfC "match_names" (defScope d_g_match_names.st) s.heap.objs.size (ga K "match_names") cdv)).units + 1 < cLine := by have := hr.un; omega
  have hv : (A.deeper (envOfC "match_names" (defScope d_g_match_names.st) s.heap.objs.size (ga K "match_names") cdv)).units + 65 < cLine := by have := hr.un; omega
  refine ⟨_, PSs.nox (pss_one (ps_ret (pe_callTy (W.c_tuple K) rfl (T.fr_tuple) U.bo_tuple (pa_cons (pe_lc (own := [("part", 2)]) rfl sc_match_names.nd (W.itAll K (pe_call G_variables_of (hr.mono (by decide)) rfl (T.gl_variables_of) F_variables_of.kp b_variables_of_1 .nil pass0 (pa_cons (pv 0) pa_nil))) (blkOk_by (by kernel_rfl)) (fun _ _ _ _ _ => (pg_name (i := 2) sc_match_names.nd rfl (by first | exact Or.inl rfl | exact Or.inr rfl))) (fun _ _ _ _ _ => pts_nil) (fun _ _ _ _ _ => (pe_ix (W.ix K hu) (pv 1) (pv 2) (fun _ _ => rfl)))) pa_nil)))), ?_⟩
  unfold m_match_names
  try dsimp only [List.map, List.drop_succ_cons, List.drop_zero, List.length_cons, List.length_nil, Nat.reduceAdd, Nat.zero_add]
  infer_instance
abbrev N_as_facts : List PySem.Str := ["store", "fact"]
theorem sc_as_facts : FnScope N_as_facts ["store"] (defScope d_g_as_facts.st) := ⟨rfl, rfl, rfl, by decide +kernel, rfl, by decide +kernel, by decide +kernel⟩
def m_as_facts : MS := (mRet (mFrz (mDc true (itL (mVar 0)) (tgN 1) [1] mYes (mVar 1) (mC (.bl true)) [1])))
def phi_as_facts : S → Option (D × S) := runDefG m_as_facts 2
theorem ok_as_facts (T : Txt K mg) {fd : FuncData} (F : Fd_as_facts K fd)  : FnOk PP w K mg base CX0 1 (ga K "as_facts") fd ["store"] (spG (ga K) 1 phi_as_facts) := by
  refine okG F sc_as_facts rfl (show runDefG m_as_facts N_as_facts.length = phi_as_facts from rfl) ?_
  intro cdv A outer s H E hr
  have hu0 : (A.deeper (envOfC "as_facts" (defScope d_g_as_facts.st) s.heap.objs.size (ga K "as_facts") cdv)).units < cLine := by have := hr.un; omega
  have hu : (A.deeper (envOfC "as_facts" (defScope d_g_as_facts.st) s.heap.objs.size (ga K "as_facts") cdv)).units + 64 < cLine := by have := hr.un; omega
  have hu1 : (A.deeper (envOfC "as_facts" (defScope d_g_as_facts.st) s.heap.objs.size (ga K "as_facts") cdv)).units + 1 < cLine := by have := hr.un; omega
  have hv : (A.deeper (envOfC "as_facts" (defScope d_g_as_facts.st) s.heap.objs.size (ga K "as_facts") cdv)).units + 65 < cLine := by have := hr.un; omega
  refine ⟨_, PSs.nox (pss_one (ps_ret (pe_frz (L2.dcG (own := [("fact", 1)]) true hu0 rfl sc_as_facts.nd (W.itAll K (pv 0)) (blkOk_by (by kernel_rfl)) (fun _ _ _ _ _ => (pg_name (i := 1) sc_as_facts.nd rfl (by first | exact Or.inl rfl | exact Or.inr rfl))) (fun _ _ _ _ _ => pts_nil) (fun _ _ _ _ _ => (pv 1)) (fun _ _ _ _ _ => pe_bl) (by intro _; rfl))))), ?_⟩
  unfold m_as_facts
  try dsimp only [List.map, List.drop_succ_cons, List.drop_zero, List.length_cons, List.length_nil, Nat.reduceAdd, Nat.zero_add]
  infer_instance
abbrev N_variables : List PySem.Str := ["question"]
theorem sc_variables : FnScope N_variables ["question"] (defScope d_g_variables.st) := ⟨rfl, rfl, rfl, by decide +kernel, rfl, by decide +kernel, by decide +kernel⟩
def m_variables : MS := (mSeq (mDrop (mCallG 1 phi_check_question (mGD (mVar 0) mGNil))) (mRet (mCallG 1 phi_variables_of (mGD (mOrE (mProp "Rule" phi_Rule_told (mVar 0)) (mProp "Question" phi_Question_told (mVar 0))) mGNil))))
def phi_variables : S → Option (D × S) := runDefG m_variables 1
theorem ok_variables (T : Txt K mg) {fd : FuncData} (F : Fd_variables K fd) {fd_check_question : FuncData} (F_check_question : Fd_check_question K fd_check_question) (G_check_question : FnOk PP w K mg base CX0 1 (ga K "check_question") fd_check_question ["value"] (spG (ga K) 1 phi_check_question)) {fd_variables_of : FuncData} (F_variables_of : Fd_variables_of K fd_variables_of) (G_variables_of : FnOk PP w K mg base CX0 2 (ga K "variables_of") fd_variables_of ["patterns"] (spG (ga K) 1 phi_variables_of)) {fd_Rule_told : FuncData} (F_Rule_told : Fd_Rule_told K fd_Rule_told) (G_Rule_told : FnOk PP w K mg base CX0 1 (pga K (ga K "Rule") "told") fd_Rule_told ["self"] (spG (ga K) 1 phi_Rule_told)) {fd_Question_told : FuncData} (F_Question_told : Fd_Question_told K fd_Question_told) (G_Question_told : FnOk PP w K mg base CX0 1 (pga K (ga K "Question") "told") fd_Question_told ["self"] (spG (ga K) 1 phi_Question_told)) : FnOk PP w K mg base CX0 3 (ga K "variables") fd ["question"] (spG (ga K) 1 phi_variables) := by
  have b_check_question_1 : Binds K fd_check_question ["value"] [] := F_check_question.bindsN fun _ _ _ _ _ _ us hl => match us, hl with | [_], _ => rfl
  have b_variables_of_1 : Binds K fd_variables_of ["patterns"] [] := F_variables_of.bindsN fun _ _ _ _ _ _ us hl => match us, hl with | [_], _ => rfl
  have b_Rule_told_1 : Binds K fd_Rule_told ["self"] [] := F_Rule_told.bindsN fun _ _ _ _ _ _ us hl => match us, hl with | [_], _ => rfl
  have b_Question_told_1 : Binds K fd_Question_told ["self"] [] := F_Question_told.bindsN fun _ _ _ _ _ _ us hl => match us, hl with | [_], _ => rfl
  refine okG F sc_variables rfl (show runDefG m_variables N_variables.length = phi_variables from rfl) ?_
  intro cdv A outer s H E hr
  have hu0 : (A.deeper (envOfC "variables" (defScope d_g_variables.st) s.heap.objs.size (ga K "variables") cdv)).units < cLine := by have := hr.un; omega
  have hu : (A.deeper (envOfC "variables" (defScope d_g_variables.st) s.heap.objs.size (ga K "variables") cdv)).units + 64 < cLine := by have := hr.un; omega
  have hu1 : (A.deeper (envOfC "variables" (defScope d_g_variables.st) s.heap.objs.size (ga K "variables") cdv)).units + 1 < cLine := by have := hr.un; omega
  have hv : (A.deeper (envOfC "variables" (defScope d_g_variables.st) s.heap.objs.size (ga K "variables") cdv)).units + 65 < cLine := by have := hr.un; omega
  refine ⟨_, PSs.nox (pss_cons (ps_expr (pe_call G_check_question (hr.mono (by decide)) rfl (T.gl_check_question) F_check_question.kp b_check_question_1 .nil pass0 (pa_cons (pv 0) pa_nil)))
      (pss_one (ps_ret (pe_call G_variables_of (hr.mono (by decide)) rfl (T.gl_variables_of) F_variables_of.kp b_variables_of_1 .nil pass0 (pa_cons (pe_or2 (pe_prop (ds := []) (dvs := []) (pv 0) (T.cls_Rule) (T.pr_Rule_told) G_Rule_told (hr.mono (by decide)) b_Rule_told_1 .nil pass0 rfl) (pe_prop (ds := []) (dvs := []) (pv 0) (T.cls_Question) (T.pr_Question_told) G_Question_told (hr.mono (by decide)) b_Question_told_1 .nil pass0 rfl)) pa_nil))))), ?_⟩
  unfold m_variables
  try dsimp only [List.map, List.drop_succ_cons, List.drop_zero, List.length_cons, List.length_nil, Nat.reduceAdd, Nat.zero_add]
  infer_instance
abbrev N_matches : List PySem.Str := ["question", "store", "names"]
theorem sc_matches : FnScope N_matches ["question", "store"] (defScope d_g_matches.st) := ⟨rfl, rfl, rfl, by decide +kernel, rfl, by decide +kernel, by decide +kernel⟩
def m_matches : MS := (mSeq (mDrop (mCallG 1 phi_check_question (mGD (mVar 0) mGNil))) (mSeq (mDrop (mCallG 1 phi_check_store (mGD (mVar 1) mGNil))) (mRet (mSorted (mLc (itL (mCallG 2 phi_matches_in (mGD (mVar 0) (mGD (mCallG 1 phi_as_facts (mGD (mVar 1) mGNil)) mGNil)))) (tgN 2) [2] mYes (mCallG 2 phi_match_names (mGD (mOrE (mProp "Rule" phi_Rule_told (mVar 0)) (mProp "Question" phi_Question_told (mVar 0))) (mGD (mVar 2) mGNil))) [2])))))
def phi_matches : S → Option (D × S) := runDefG m_matches 3
theorem ok_matches (T : Txt K mg) {fd : FuncData} (F : Fd_matches K fd) {fd_check_question : FuncData} (F_check_question : Fd_check_question K fd_check_question) (G_check_question : FnOk PP w K mg base CX0 1 (ga K "check_question") fd_check_question ["value"] (spG (ga K) 1 phi_check_question)) {fd_check_store : FuncData} (F_check_store : Fd_check_store K fd_check_store) (G_check_store : FnOk PP w K mg base CX0 6 (ga K "check_store") fd_check_store ["value"] (spG (ga K) 1 phi_check_store)) {fd_matches_in : FuncData} (F_matches_in : Fd_matches_in K fd_matches_in) (G_matches_in : FnOk PP w K mg base CX0 4 (ga K "matches_in") fd_matches_in ["thing", "facts"] (spG (ga K) 2 phi_matches_in)) {fd_as_facts : FuncData} (F_as_facts : Fd_as_facts K fd_as_facts) (G_as_facts : FnOk PP w K mg base CX0 1 (ga K "as_facts") fd_as_facts ["store"] (spG (ga K) 1 phi_as_facts)) {fd_match_names : FuncData} (F_match_names : Fd_match_names K fd_match_names) (G_match_names : FnOk PP w K mg base CX0 3 (ga K "match_names") fd_match_names ["told", "names"] (spG (ga K) 2 phi_match_names)) {fd_Rule_told : FuncData} (F_Rule_told : Fd_Rule_told K fd_Rule_told) (G_Rule_told : FnOk PP w K mg base CX0 1 (pga K (ga K "Rule") "told") fd_Rule_told ["self"] (spG (ga K) 1 phi_Rule_told)) {fd_Question_told : FuncData} (F_Question_told : Fd_Question_told K fd_Question_told) (G_Question_told : FnOk PP w K mg base CX0 1 (pga K (ga K "Question") "told") fd_Question_told ["self"] (spG (ga K) 1 phi_Question_told)) : FnOk PP w K mg base CX0 7 (ga K "matches") fd ["question", "store"] (spG (ga K) 2 phi_matches) := by
  have b_check_question_1 : Binds K fd_check_question ["value"] [] := F_check_question.bindsN fun _ _ _ _ _ _ us hl => match us, hl with | [_], _ => rfl
  have b_check_store_1 : Binds K fd_check_store ["value"] [] := F_check_store.bindsN fun _ _ _ _ _ _ us hl => match us, hl with | [_], _ => rfl
  have b_matches_in_2 : Binds K fd_matches_in ["thing", "facts"] [] := F_matches_in.bindsN fun _ _ _ _ _ _ us hl => match us, hl with | [_, _], _ => rfl
  have b_as_facts_1 : Binds K fd_as_facts ["store"] [] := F_as_facts.bindsN fun _ _ _ _ _ _ us hl => match us, hl with | [_], _ => rfl
  have b_match_names_2 : Binds K fd_match_names ["told", "names"] [] := F_match_names.bindsN fun _ _ _ _ _ _ us hl => match us, hl with | [_, _], _ => rfl
  have b_Rule_told_1 : Binds K fd_Rule_told ["self"] [] := F_Rule_told.bindsN fun _ _ _ _ _ _ us hl => match us, hl with | [_], _ => rfl
  have b_Question_told_1 : Binds K fd_Question_told ["self"] [] := F_Question_told.bindsN fun _ _ _ _ _ _ us hl => match us, hl with | [_], _ => rfl
  refine okG F sc_matches rfl (show runDefG m_matches N_matches.length = phi_matches from rfl) ?_
  intro cdv A outer s H E hr
  have hu0 : (A.deeper (envOfC "matches" (defScope d_g_matches.st) s.heap.objs.size (ga K "matches") cdv)).units < cLine := by have := hr.un; omega
  have hu : (A.deeper (envOfC "matches" (defScope d_g_matches.st) s.heap.objs.size (ga K "matches") cdv)).units + 64 < cLine := by have := hr.un; omega
  have hu1 : (A.deeper (envOfC "matches" (defScope d_g_matches.st) s.heap.objs.size (ga K "matches") cdv)).units + 1 < cLine := by have := hr.un; omega
  have hv : (A.deeper (envOfC "matches" (defScope d_g_matches.st) s.heap.objs.size (ga K "matches") cdv)).units + 65 < cLine := by have := hr.un; omega
  refine ⟨_, PSs.nox (pss_cons (ps_expr (pe_call G_check_question (hr.mono (by decide)) rfl (T.gl_check_question) F_check_question.kp b_check_question_1 .nil pass0 (pa_cons (pv 0) pa_nil)))
      (pss_cons (ps_expr (pe_call G_check_store (hr.mono (by decide)) rfl (T.gl_check_store) F_check_store.kp b_check_store_1 .nil pass0 (pa_cons (pv 1) pa_nil)))
      (pss_one (ps_ret (pe_callB (W.c_sorted K hu) rfl (T.fr_sorted) U.bo_sorted (pa_cons (pe_lc (own := [("names", 2)]) rfl sc_matches.nd (W.itAll K (pe_call G_matches_in (hr.mono (by decide)) rfl (T.gl_matches_in) F_matches_in.kp b_matches_in_2 .nil pass0 (pa_cons (pv 0) (pa_cons (pe_call G_as_facts (hr.mono (by decide)) rfl (T.gl_as_facts) F_as_facts.kp b_as_facts_1 .nil pass0 (pa_cons (pv 1) pa_nil)) pa_nil)))) (blkOk_by (by kernel_rfl)) (fun _ _ _ _ _ => (pg_name (i := 2) sc_matches.nd rfl (by first | exact Or.inl rfl | exact Or.inr rfl))) (fun _ _ _ _ _ => pts_nil) (fun _ _ _ _ _ => (pe_call G_match_names (hr.mono (by decide)) rfl (T.gl_match_names) F_match_names.kp b_match_names_2 .nil pass0 (pa_cons (pe_or2 (pe_prop (ds := []) (dvs := []) (pv 0) (T.cls_Rule) (T.pr_Rule_told) G_Rule_told (hr.mono (by decide)) b_Rule_told_1 .nil pass0 rfl) (pe_prop (ds := []) (dvs := []) (pv 0) (T.cls_Question) (T.pr_Question_told) G_Question_told (hr.mono (by decide)) b_Question_told_1 .nil pass0 rfl)) (pa_cons (pv 2) pa_nil))))) pa_nil)))))), ?_⟩
  unfold m_matches
  try dsimp only [List.map, List.drop_succ_cons, List.drop_zero, List.length_cons, List.length_nil, Nat.reduceAdd, Nat.zero_add]
  infer_instance
abbrev N_count_matches : List PySem.Str := ["question", "store"]
theorem sc_count_matches : FnScope N_count_matches ["question", "store"] (defScope d_g_count_matches.st) := ⟨rfl, rfl, rfl, by decide +kernel, rfl, by decide +kernel, by decide +kernel⟩
def m_count_matches : MS := (mRet (mCB dLen (mCons (mCallG 2 phi_matches (mGD (mVar 0) (mGD (mVar 1) mGNil))) mNil)))
def phi_count_matches : S → Option (D × S) := runDefG m_count_matches 2
theorem ok_count_matches (T : Txt K mg) {fd : FuncData} (F : Fd_count_matches K fd) {fd_matches : FuncData} (F_matches : Fd_matches K fd_matches) (G_matches : FnOk PP w K mg base CX0 7 (ga K "matches") fd_matches ["question", "store"] (spG (ga K) 2 phi_matches)) : FnOk PP w K mg base CX0 8 (ga K "count_matches") fd ["question", "store"] (spG (ga K) 2 phi_count_matches) := by
  have b_matches_2 : Binds K fd_matches ["question", "store"] [] := F_matches.bindsN fun _ _ _ _ _ _ us hl => match us, hl with | [_, _], _ => rfl
  refine okG F sc_count_matches rfl (show runDefG m_count_matches N_count_matches.length = phi_count_matches from rfl) ?_
  intro cdv A outer s H E hr
  have hu0 : (A.deeper (envOfC "count_matches" (defScope d_g_count_matches.st) s.heap.objs.size (ga K "count_matches") cdv)).units < cLine := by have := hr.un; omega
  have hu : (A.deeper (envOfC "count_matches" (defScope d_g_count_matches.st) s.heap.objs.size (ga K "count_matches") cdv)).units + 64 < cLine := by have := hr.un; omega
  have hu1 : (A.deeper (envOfC "count_matches" (defScope d_g_count_matches.st) s.heap.objs.size (ga K "count_matches") cdv)).units + 1 < cLine := by have := hr.un; omega
  have hv : (A.deeper (envOfC "count_matches" (defScope d_g_count_matches.st) s.heap.objs.size (ga K "count_matches") cdv)).units + 65 < cLine := by have := hr.un; omega
  refine ⟨_, PSs.nox (pss_one (ps_ret (pe_callB (UK.c_len K) rfl (T.fr_len) U.bo_len (pa_cons (pe_call G_matches (hr.mono (by decide)) rfl (T.gl_matches) F_matches.kp b_matches_2 .nil pass0 (pa_cons (pv 0) (pa_cons (pv 1) pa_nil))) pa_nil)))), ?_⟩
  unfold m_count_matches
  try dsimp only [List.map, List.drop_succ_cons, List.drop_zero, List.length_cons, List.length_nil, Nat.reduceAdd, Nat.zero_add]
  infer_instance
abbrev N_matches_with : List PySem.Str := ["question", "store", "fact", "told", "found_here", "names", "pattern"]
theorem sc_matches_with : FnScope N_matches_with ["question", "store", "fact"] (defScope d_g_matches_with.st) := ⟨rfl, rfl, rfl, by decide +kernel, rfl, by decide +kernel, by decide +kernel⟩
def m_matches_with : MS := (mSeq (mDrop (mCallG 1 phi_check_question (mGD (mVar 0) mGNil))) (mSeq (mDrop (mCallG 1 phi_check_store (mGD (mVar 1) mGNil))) (mSeq (mDrop (mCallG 1 phi_check_fact (mGD (mVar 2) mGNil))) (mSeq (mParXO 3 4 (mOrE (mProp "Rule" phi_Rule_told (mVar 0)) (mProp "Question" phi_Question_told (mVar 0))) (mLst mNil)) (mSeq (mFor (itL (mCallG 2 phi_matches_in (mGD (mVar 0) (mGD (mCallG 1 phi_as_facts (mGD (mVar 1) mGNil)) mGNil)))) (tgN 5) (mIfS (mT (mOp dInW (mVar 2) (mLc (itL (mVar 3)) (tgN 6) [6] mYes (mCallG 2 phi_filled (mGD (mVar 6) (mGD (mVar 5) mGNil))) [6]))) (mApp 4 (mCallG 2 phi_match_names (mGD (mVar 3) (mGD (mVar 5) mGNil)))) mSkip)) (mFix 4 (mRet (mSorted (mVar 4)))))))))
def phi_matches_with : S → Option (D × S) := runDefG m_matches_with 7
theorem ok_matches_with (T : Txt K mg) {fd : FuncData} (F : Fd_matches_with K fd) {fd_check_question : FuncData} (F_check_question : Fd_check_question K fd_check_question) (G_check_question : FnOk PP w K mg base CX0 1 (ga K "check_question") fd_check_question ["value"] (spG (ga K) 1 phi_check_question)) {fd_check_store : FuncData} (F_check_store : Fd_check_store K fd_check_store) (G_check_store : FnOk PP w K mg base CX0 6 (ga K "check_store") fd_check_store ["value"] (spG (ga K) 1 phi_check_store)) {fd_check_fact : FuncData} (F_check_fact : Fd_check_fact K fd_check_fact) (G_check_fact : FnOk PP w K mg base CX0 5 (ga K "check_fact") fd_check_fact ["value"] (spG (ga K) 1 phi_check_fact)) {fd_Rule_told : FuncData} (F_Rule_told : Fd_Rule_told K fd_Rule_told) (G_Rule_told : FnOk PP w K mg base CX0 1 (pga K (ga K "Rule") "told") fd_Rule_told ["self"] (spG (ga K) 1 phi_Rule_told)) {fd_Question_told : FuncData} (F_Question_told : Fd_Question_told K fd_Question_told) (G_Question_told : FnOk PP w K mg base CX0 1 (pga K (ga K "Question") "told") fd_Question_told ["self"] (spG (ga K) 1 phi_Question_told)) {fd_matches_in : FuncData} (F_matches_in : Fd_matches_in K fd_matches_in) (G_matches_in : FnOk PP w K mg base CX0 4 (ga K "matches_in") fd_matches_in ["thing", "facts"] (spG (ga K) 2 phi_matches_in)) {fd_as_facts : FuncData} (F_as_facts : Fd_as_facts K fd_as_facts) (G_as_facts : FnOk PP w K mg base CX0 1 (ga K "as_facts") fd_as_facts ["store"] (spG (ga K) 1 phi_as_facts)) {fd_filled : FuncData} (F_filled : Fd_filled K fd_filled) (G_filled : FnOk PP w K mg base CX0 1 (ga K "filled") fd_filled ["pattern", "names"] (spG (ga K) 2 phi_filled)) {fd_match_names : FuncData} (F_match_names : Fd_match_names K fd_match_names) (G_match_names : FnOk PP w K mg base CX0 3 (ga K "match_names") fd_match_names ["told", "names"] (spG (ga K) 2 phi_match_names)) : FnOk PP w K mg base CX0 7 (ga K "matches_with") fd ["question", "store", "fact"] (spG (ga K) 3 phi_matches_with) := by
  have b_check_question_1 : Binds K fd_check_question ["value"] [] := F_check_question.bindsN fun _ _ _ _ _ _ us hl => match us, hl with | [_], _ => rfl
  have b_check_store_1 : Binds K fd_check_store ["value"] [] := F_check_store.bindsN fun _ _ _ _ _ _ us hl => match us, hl with | [_], _ => rfl
  have b_check_fact_1 : Binds K fd_check_fact ["value"] [] := F_check_fact.bindsN fun _ _ _ _ _ _ us hl => match us, hl with | [_], _ => rfl
  have b_Rule_told_1 : Binds K fd_Rule_told ["self"] [] := F_Rule_told.bindsN fun _ _ _ _ _ _ us hl => match us, hl with | [_], _ => rfl
  have b_Question_told_1 : Binds K fd_Question_told ["self"] [] := F_Question_told.bindsN fun _ _ _ _ _ _ us hl => match us, hl with | [_], _ => rfl
  have b_matches_in_2 : Binds K fd_matches_in ["thing", "facts"] [] := F_matches_in.bindsN fun _ _ _ _ _ _ us hl => match us, hl with | [_, _], _ => rfl
  have b_as_facts_1 : Binds K fd_as_facts ["store"] [] := F_as_facts.bindsN fun _ _ _ _ _ _ us hl => match us, hl with | [_], _ => rfl
  have b_filled_2 : Binds K fd_filled ["pattern", "names"] [] := F_filled.bindsN fun _ _ _ _ _ _ us hl => match us, hl with | [_, _], _ => rfl
  have b_match_names_2 : Binds K fd_match_names ["told", "names"] [] := F_match_names.bindsN fun _ _ _ _ _ _ us hl => match us, hl with | [_, _], _ => rfl
  refine okG F sc_matches_with rfl (show runDefG m_matches_with N_matches_with.length = phi_matches_with from rfl) ?_
  intro cdv A outer s H E hr
  have hu0 : (A.deeper (envOfC "matches_with" (defScope d_g_matches_with.st) s.heap.objs.size (ga K "matches_with") cdv)).units < cLine := by have := hr.un; omega
  have hu : (A.deeper (envOfC "matches_with" (defScope d_g_matches_with.st) s.heap.objs.size (ga K "matches_with") cdv)).units + 64 < cLine := by have := hr.un; omega
  have hu1 : (A.deeper (envOfC "matches_with" (defScope d_g_matches_with.st) s.heap.objs.size (ga K "matches_with") cdv)).units + 1 < cLine := by have := hr.un; omega
  have hv : (A.deeper (envOfC "matches_with" (defScope d_g_matches_with.st) s.heap.objs.size (ga K "matches_with") cdv)).units + 65 < cLine := by have := hr.un; omega
  refine ⟨_, PSs.nox (pss_cons (ps_expr (pe_call G_check_question (hr.mono (by decide)) rfl (T.gl_check_question) F_check_question.kp b_check_question_1 .nil pass0 (pa_cons (pv 0) pa_nil)))
      (pss_cons (ps_expr (pe_call G_check_store (hr.mono (by decide)) rfl (T.gl_check_store) F_check_store.kp b_check_store_1 .nil pass0 (pa_cons (pv 1) pa_nil)))
      (pss_cons (ps_expr (pe_call G_check_fact (hr.mono (by decide)) rfl (T.gl_check_fact) F_check_fact.kp b_check_fact_1 .nil pass0 (pa_cons (pv 2) pa_nil)))
      (pss_cons (ps_par (i := 3) (j := 4) rfl sc_matches_with.nd rfl rfl (by decide) rfl rfl (pa_cons (pe_or2 (pe_prop (ds := []) (dvs := []) (pv 0) (T.cls_Rule) (T.pr_Rule_told) G_Rule_told (hr.mono (by decide)) b_Rule_told_1 .nil pass0 rfl) (pe_prop (ds := []) (dvs := []) (pv 0) (T.cls_Question) (T.pr_Question_told) G_Question_told (hr.mono (by decide)) b_Question_told_1 .nil pass0 rfl)) (pa_cons (pe_lst pa_nil) pa_nil)) (by kernel_rfl))
      (pss_cons (ps_for PassesOwn.never rfl (W.itAll K (pe_call G_matches_in (hr.mono (by decide)) rfl (T.gl_matches_in) F_matches_in.kp b_matches_in_2 .nil pass0 (pa_cons (pv 0) (pa_cons (pe_call G_as_facts (hr.mono (by decide)) rfl (T.gl_as_facts) F_as_facts.kp b_as_facts_1 .nil pass0 (pa_cons (pv 1) pa_nil)) pa_nil)))) (pg_name (i := 5) sc_matches_with.nd rfl (by first | exact Or.inl rfl | exact Or.inr rfl)) (pss_one (ps_if (pt_cmpR (W.isIn K hv) (pv 2) (pe_lc (own := [("pattern", 6)]) rfl sc_matches_with.nd (W.itAll K (pv 3)) (blkOk_by (by kernel_rfl)) (fun _ _ _ _ _ => (pg_name (i := 6) sc_matches_with.nd rfl (by first | exact Or.inl rfl | exact Or.inr rfl))) (fun _ _ _ _ _ => pts_nil) (fun _ _ _ _ _ => (pe_call G_filled (hr.mono (by decide)) rfl (T.gl_filled) F_filled.kp b_filled_2 .nil pass0 (pa_cons (pv 6) (pa_cons (pv 5) pa_nil))))) rfl) (pss_one (ps_expr (pe_bm PySem.F.plainAttrs_list PySem.F.slot_list_append PySem.F.type_list_append mt_append (pv 4) (pa_cons (pe_call G_match_names (hr.mono (by decide)) rfl (T.gl_match_names) F_match_names.kp b_match_names_2 .nil pass0 (pa_cons (pv 3) (pa_cons (pv 5) pa_nil))) pa_nil)))) pss_nil)))
      (pss_one (ps_ret (pe_callB (W.c_sorted K hu) rfl (T.fr_sorted) U.bo_sorted (pa_cons (pv 4) pa_nil))))))))), ?_⟩
  unfold m_matches_with
  try dsimp only [List.map, List.drop_succ_cons, List.drop_zero, List.length_cons, List.length_nil, Nat.reduceAdd, Nat.zero_add]
  infer_instance
abbrev N_steps_of : List PySem.Str := ["told", "pairs", "facts", "numbers", "many", "some", "near", "pair", "part"]
theorem sc_steps_of : FnScope N_steps_of ["told", "pairs", "facts"] (defScope d_g_steps_of.st) := ⟨rfl, rfl, rfl, by decide +kernel, rfl, by decide +kernel, by decide +kernel⟩
def m_steps_of : MS := (mSeq (mSetO 3 (mLst mNil)) (mSeq (mFor (itR2 (mCons (mC (.int 1)) (mCons (mOp dAdd (mCB dLen (mCons (mVar 0) mNil)) (mC (.int 1))) mNil))) (tgN 4) (mSeq (mSet 5 (mCallG 1 phi_variables_of (mGD (mSl (mVar 0) mNo (mPart (mVar 4))) mGNil))) (mSeq (mSet 6 (mLc (itL (mVar 1)) (tgN 7) [7] (mT (mOp dEqW (mLc (itL (mVar 7)) (tgN 8) [8] (mAnd (mT (mCallG 1 phi_is_variable (mGD (mVar 8) mGNil))) (mT (mOp dNiW (mVar 8) (mVar 5)))) (mVar 8) [8]) (mLst mNil))) (mVar 7) [7])) (mApp 3 (mCB dLen (mCons (mCallG 4 phi_matches_of (mGD (mSl (mVar 0) mNo (mPart (mVar 4))) (mGD (mVar 6) (mGD (mLst mNil) (mGD (mVar 2) mGNil))))) mNil)))))) (mFix 3 (mRet (mVar 3)))))
def phi_steps_of : S → Option (D × S) := runDefG m_steps_of 9
theorem ok_steps_of (T : Txt K mg) {fd : FuncData} (F : Fd_steps_of K fd) {fd_variables_of : FuncData} (F_variables_of : Fd_variables_of K fd_variables_of) (G_variables_of : FnOk PP w K mg base CX0 2 (ga K "variables_of") fd_variables_of ["patterns"] (spG (ga K) 1 phi_variables_of)) {fd_is_variable : FuncData} (F_is_variable : Fd_is_variable K fd_is_variable) (G_is_variable : FnOk PP w K mg base CX0 1 (ga K "is_variable") fd_is_variable ["value"] (spG (ga K) 1 phi_is_variable)) {fd_matches_of : FuncData} (F_matches_of : Fd_matches_of K fd_matches_of) (G_matches_of : FnOk PP w K mg base CX0 3 (ga K "matches_of") fd_matches_of ["told", "pairs", "denied", "facts"] (spG (ga K) 4 phi_matches_of)) : FnOk PP w K mg base CX0 4 (ga K "steps_of") fd ["told", "pairs", "facts"] (spG (ga K) 3 phi_steps_of) := by
  have b_variables_of_1 : Binds K fd_variables_of ["patterns"] [] := F_variables_of.bindsN fun _ _ _ _ _ _ us hl => match us, hl with | [_], _ => rfl
  have b_is_variable_1 : Binds K fd_is_variable ["value"] [] := F_is_variable.bindsN fun _ _ _ _ _ _ us hl => match us, hl with | [_], _ => rfl
  have b_matches_of_4 : Binds K fd_matches_of ["told", "pairs", "denied", "facts"] [] := F_matches_of.bindsN fun _ _ _ _ _ _ us hl => match us, hl with | [_, _, _, _], _ => rfl
  refine okG F sc_steps_of rfl (show runDefG m_steps_of N_steps_of.length = phi_steps_of from rfl) ?_
  intro cdv A outer s H E hr
  have hu0 : (A.deeper (envOfC "steps_of" (defScope d_g_steps_of.st) s.heap.objs.size (ga K "steps_of") cdv)).units < cLine := by have := hr.un; omega
  have hu : (A.deeper (envOfC "steps_of" (defScope d_g_steps_of.st) s.heap.objs.size (ga K "steps_of") cdv)).units + 64 < cLine := by have := hr.un; omega
  have hu1 : (A.deeper (envOfC "steps_of" (defScope d_g_steps_of.st) s.heap.objs.size (ga K "steps_of") cdv)).units + 1 < cLine := by have := hr.un; omega
  have hv : (A.deeper (envOfC "steps_of" (defScope d_g_steps_of.st) s.heap.objs.size (ga K "steps_of") cdv)).units + 65 < cLine := by have := hr.un; omega
  refine ⟨_, PSs.nox (pss_cons (ps_set (i := 3) sc_steps_of.nd rfl (by first | exact Or.inl rfl | exact Or.inr rfl) (pe_lst pa_nil))
      (pss_cons (ps_for PassesOwn.never rfl (pi_range2 rfl (T.fr_range) (pa_cons pe_int (pa_cons (pe_op (UK.add K) (pe_callB (UK.c_len K) rfl (T.fr_len) U.bo_len (pa_cons (pv 0) pa_nil)) pe_int) pa_nil))) (pg_name (i := 4) sc_steps_of.nd rfl (by first | exact Or.inl rfl | exact Or.inr rfl)) (pss_cons (ps_set (i := 5) sc_steps_of.nd rfl (by first | exact Or.inl rfl | exact Or.inr rfl) (pe_call G_variables_of (hr.mono (by decide)) rfl (T.gl_variables_of) F_variables_of.kp b_variables_of_1 .nil pass0 (pa_cons (pe_slice (UK.sl K) (pv 0) po_none (po_some (pv 4))) pa_nil)))
      (pss_cons (ps_setLc (i := 6) (own := [("pair", 7)]) rfl sc_steps_of.nd rfl rfl (sw_true rfl rfl rfl (by decide +kernel)) (W.itAll K (pv 1)) (blkOk_by (by kernel_rfl)) (fun _ _ _ _ _ => (pg_name (i := 7) sc_steps_of.nd rfl (by first | exact Or.inl rfl | exact Or.inr rfl))) (fun _ _ _ _ _ => (pts_one (pt_cmpR (W.eq K hu) (pe_lc (own := [("part", 8)]) rfl sc_steps_of.nd (W.itAll K (pv 7)) (blkOk_by (by kernel_rfl)) (fun _ _ _ _ _ => (pg_name (i := 8) sc_steps_of.nd rfl (by first | exact Or.inl rfl | exact Or.inr rfl))) (fun _ _ _ _ _ => (pts_one (PW.pt (pw_and (pt_val (pe_call G_is_variable (hr.mono (by decide)) rfl (T.gl_is_variable) F_is_variable.kp b_is_variable_1 .nil pass0 (pa_cons (pv 8) pa_nil))) (pw_and1 (pt_cmpR (W.notIn K hv) (pv 8) (pv 5) rfl)))))) (fun _ _ _ _ _ => (pv 8))) (pe_lst pa_nil) (nomark _)))) (fun _ _ _ _ _ => (pv 7)))
      (pss_one (ps_expr (pe_bm PySem.F.plainAttrs_list PySem.F.slot_list_append PySem.F.type_list_append mt_append (pv 3) (pa_cons (pe_callB (UK.c_len K) rfl (T.fr_len) U.bo_len (pa_cons (pe_call G_matches_of (hr.mono (by decide)) rfl (T.gl_matches_of) F_matches_of.kp b_matches_of_4 .nil pass0 (pa_cons (pe_slice (UK.sl K) (pv 0) po_none (po_some (pv 4))) (pa_cons (pv 6) (pa_cons (pe_lst pa_nil) (pa_cons (pv 2) pa_nil))))) pa_nil)) pa_nil)))))))
      (pss_one (ps_ret (pv 3))))), ?_⟩
  unfold m_steps_of
  try dsimp only [List.map, List.drop_succ_cons, List.drop_zero, List.length_cons, List.length_nil, Nat.reduceAdd, Nat.zero_add]
  infer_instance
abbrev N_partials : List PySem.Str := ["question", "store"]
theorem sc_partials : FnScope N_partials ["question", "store"] (defScope d_g_partials.st) := ⟨rfl, rfl, rfl, by decide +kernel, rfl, by decide +kernel, by decide +kernel⟩
def m_partials : MS := (mSeq (mDrop (mCallG 1 phi_check_question (mGD (mVar 0) mGNil))) (mSeq (mDrop (mCallG 1 phi_check_store (mGD (mVar 1) mGNil))) (mRet (mCallG 3 phi_steps_of (mGD (mOrE (mProp "Rule" phi_Rule_told (mVar 0)) (mProp "Question" phi_Question_told (mVar 0))) (mGD (mOrE (mProp "Rule" phi_Rule_pairs (mVar 0)) (mProp "Question" phi_Question_pairs (mVar 0))) (mGD (mCallG 1 phi_as_facts (mGD (mVar 1) mGNil)) mGNil)))))))
def phi_partials : S → Option (D × S) := runDefG m_partials 2
theorem ok_partials (T : Txt K mg) {fd : FuncData} (F : Fd_partials K fd) {fd_check_question : FuncData} (F_check_question : Fd_check_question K fd_check_question) (G_check_question : FnOk PP w K mg base CX0 1 (ga K "check_question") fd_check_question ["value"] (spG (ga K) 1 phi_check_question)) {fd_check_store : FuncData} (F_check_store : Fd_check_store K fd_check_store) (G_check_store : FnOk PP w K mg base CX0 6 (ga K "check_store") fd_check_store ["value"] (spG (ga K) 1 phi_check_store)) {fd_steps_of : FuncData} (F_steps_of : Fd_steps_of K fd_steps_of) (G_steps_of : FnOk PP w K mg base CX0 4 (ga K "steps_of") fd_steps_of ["told", "pairs", "facts"] (spG (ga K) 3 phi_steps_of)) {fd_as_facts : FuncData} (F_as_facts : Fd_as_facts K fd_as_facts) (G_as_facts : FnOk PP w K mg base CX0 1 (ga K "as_facts") fd_as_facts ["store"] (spG (ga K) 1 phi_as_facts)) {fd_Rule_pairs : FuncData} (F_Rule_pairs : Fd_Rule_pairs K fd_Rule_pairs) (G_Rule_pairs : FnOk PP w K mg base CX0 1 (pga K (ga K "Rule") "pairs") fd_Rule_pairs ["self"] (spG (ga K) 1 phi_Rule_pairs)) {fd_Question_pairs : FuncData} (F_Question_pairs : Fd_Question_pairs K fd_Question_pairs) (G_Question_pairs : FnOk PP w K mg base CX0 1 (pga K (ga K "Question") "pairs") fd_Question_pairs ["self"] (spG (ga K) 1 phi_Question_pairs)) {fd_Rule_told : FuncData} (F_Rule_told : Fd_Rule_told K fd_Rule_told) (G_Rule_told : FnOk PP w K mg base CX0 1 (pga K (ga K "Rule") "told") fd_Rule_told ["self"] (spG (ga K) 1 phi_Rule_told)) {fd_Question_told : FuncData} (F_Question_told : Fd_Question_told K fd_Question_told) (G_Question_told : FnOk PP w K mg base CX0 1 (pga K (ga K "Question") "told") fd_Question_told ["self"] (spG (ga K) 1 phi_Question_told)) : FnOk PP w K mg base CX0 7 (ga K "partials") fd ["question", "store"] (spG (ga K) 2 phi_partials) := by
  have b_check_question_1 : Binds K fd_check_question ["value"] [] := F_check_question.bindsN fun _ _ _ _ _ _ us hl => match us, hl with | [_], _ => rfl
  have b_check_store_1 : Binds K fd_check_store ["value"] [] := F_check_store.bindsN fun _ _ _ _ _ _ us hl => match us, hl with | [_], _ => rfl
  have b_steps_of_3 : Binds K fd_steps_of ["told", "pairs", "facts"] [] := F_steps_of.bindsN fun _ _ _ _ _ _ us hl => match us, hl with | [_, _, _], _ => rfl
  have b_as_facts_1 : Binds K fd_as_facts ["store"] [] := F_as_facts.bindsN fun _ _ _ _ _ _ us hl => match us, hl with | [_], _ => rfl
  have b_Rule_pairs_1 : Binds K fd_Rule_pairs ["self"] [] := F_Rule_pairs.bindsN fun _ _ _ _ _ _ us hl => match us, hl with | [_], _ => rfl
  have b_Question_pairs_1 : Binds K fd_Question_pairs ["self"] [] := F_Question_pairs.bindsN fun _ _ _ _ _ _ us hl => match us, hl with | [_], _ => rfl
  have b_Rule_told_1 : Binds K fd_Rule_told ["self"] [] := F_Rule_told.bindsN fun _ _ _ _ _ _ us hl => match us, hl with | [_], _ => rfl
  have b_Question_told_1 : Binds K fd_Question_told ["self"] [] := F_Question_told.bindsN fun _ _ _ _ _ _ us hl => match us, hl with | [_], _ => rfl
  refine okG F sc_partials rfl (show runDefG m_partials N_partials.length = phi_partials from rfl) ?_
  intro cdv A outer s H E hr
  have hu0 : (A.deeper (envOfC "partials" (defScope d_g_partials.st) s.heap.objs.size (ga K "partials") cdv)).units < cLine := by have := hr.un; omega
  have hu : (A.deeper (envOfC "partials" (defScope d_g_partials.st) s.heap.objs.size (ga K "partials") cdv)).units + 64 < cLine := by have := hr.un; omega
  have hu1 : (A.deeper (envOfC "partials" (defScope d_g_partials.st) s.heap.objs.size (ga K "partials") cdv)).units + 1 < cLine := by have := hr.un; omega
  have hv : (A.deeper (envOfC "partials" (defScope d_g_partials.st) s.heap.objs.size (ga K "partials") cdv)).units + 65 < cLine := by have := hr.un; omega
  refine ⟨_, PSs.nox (pss_cons (ps_expr (pe_call G_check_question (hr.mono (by decide)) rfl (T.gl_check_question) F_check_question.kp b_check_question_1 .nil pass0 (pa_cons (pv 0) pa_nil)))
      (pss_cons (ps_expr (pe_call G_check_store (hr.mono (by decide)) rfl (T.gl_check_store) F_check_store.kp b_check_store_1 .nil pass0 (pa_cons (pv 1) pa_nil)))
      (pss_one (ps_ret (pe_call G_steps_of (hr.mono (by decide)) rfl (T.gl_steps_of) F_steps_of.kp b_steps_of_3 .nil pass0 (pa_cons (pe_or2 (pe_prop (ds := []) (dvs := []) (pv 0) (T.cls_Rule) (T.pr_Rule_told) G_Rule_told (hr.mono (by decide)) b_Rule_told_1 .nil pass0 rfl) (pe_prop (ds := []) (dvs := []) (pv 0) (T.cls_Question) (T.pr_Question_told) G_Question_told (hr.mono (by decide)) b_Question_told_1 .nil pass0 rfl)) (pa_cons (pe_or2 (pe_prop (ds := []) (dvs := []) (pv 0) (T.cls_Rule) (T.pr_Rule_pairs) G_Rule_pairs (hr.mono (by decide)) b_Rule_pairs_1 .nil pass0 rfl) (pe_prop (ds := []) (dvs := []) (pv 0) (T.cls_Question) (T.pr_Question_pairs) G_Question_pairs (hr.mono (by decide)) b_Question_pairs_1 .nil pass0 rfl)) (pa_cons (pe_call G_as_facts (hr.mono (by decide)) rfl (T.gl_as_facts) F_as_facts.kp b_as_facts_1 .nil pass0 (pa_cons (pv 1) pa_nil)) pa_nil)))))))), ?_⟩
  unfold m_partials
  try dsimp only [List.map, List.drop_succ_cons, List.drop_zero, List.length_cons, List.length_nil, Nat.reduceAdd, Nat.zero_add]
  infer_instance
abbrev N_orders_of : List PySem.Str := ["places", "rows", "place", "row", "other"]
theorem sc_orders_of : FnScope N_orders_of ["places"] (defScope d_g_orders_of.st) := ⟨rfl, rfl, rfl, by decide +kernel, rfl, by decide +kernel, by decide +kernel⟩
def m_orders_of (phi : S → Option (D × S)) : MS := (mSeq (mIfS (mT (mOp dEqW (mVar 0) (mLst mNil))) (mRet (mLst (mCons (mLst mNil) mNil))) mSkip) (mSeq (mSet 1 (mLst mNil)) (mSeq (mFor (itL (mVar 0)) (tgN 2) (mSet 1 (mOp dAdd (mVar 1) (mLc (itL (mCallG 1 phi (mGD (mLc (itL (mVar 0)) (tgN 4) [4] (mT (mOp dNeW (mVar 4) (mVar 2))) (mVar 4) [4]) mGNil))) (tgN 3) [3] mYes (mOp dAdd (mLst (mCons (mVar 2) mNil)) (mVar 3)) [3])))) (mRet (mVar 1)))))
def phi_orders_of : Nat → S → Option (D × S)
  | 0 => fun _ => none
  | n + 1 => runDefG (m_orders_of (phi_orders_of n)) 5
theorem ok_orders_of (T : Txt K mg) {fd : FuncData} (F : Fd_orders_of K fd)  : ∀ n : Nat, FnOk PP w K mg base CX0 (1 + n) (ga K "orders_of") fd ["places"] (spG (ga K) 1 (phi_orders_of n))
  | 0 => okG_zero
  | n + 1 => by
    have F_orders_of := F
    have G_orders_of := ok_orders_of T F  n
    have b_orders_of_1 : Binds K fd ["places"] [] := F.bindsN fun _ _ _ _ _ _ us hl => match us, hl with | [_], _ => rfl
    refine okG F sc_orders_of rfl (show runDefG (m_orders_of (phi_orders_of n)) N_orders_of.length = phi_orders_of (n + 1) from rfl) ?_
    intro cdv A outer s H E hr
    have hu0 : (A.deeper (envOfC "orders_of" (defScope d_g_orders_of.st) s.heap.objs.size (ga K "orders_of") cdv)).units < cLine := by have := hr.un; omega
    have hu : (A.deeper (envOfC "orders_of" (defScope d_g_orders_of.st) s.heap.objs.size (ga K "orders_of") cdv)).units + 64 < cLine := by have := hr.un; omega
    have hu1 : (A.deeper (envOfC "orders_of" (defScope d_g_orders_of.st) s.heap.objs.size (ga K "orders_of") cdv)).units + 1 < cLine := by have := hr.un; omega
    have hv : (A.deeper (envOfC "orders_of" (defScope d_g_orders_of.st) s.heap.objs.size (ga K "orders_of") cdv)).units + 65 < cLine := by have := hr.un; omega
    refine ⟨_, PSs.nox (pss_cons (ps_if (pt_cmpR (W.eq K hu) (pv 0) (pe_lst pa_nil) (nomark _)) (pss_one (ps_ret (pe_lst (pa_cons (pe_lst pa_nil) pa_nil)))) pss_nil)
        (pss_cons (ps_set (i := 1) sc_orders_of.nd rfl (by first | exact Or.inl rfl | exact Or.inr rfl) (pe_lst pa_nil))
        (pss_cons (ps_for PassesOwn.never rfl (W.itAll K (pv 0)) (pg_name (i := 2) sc_orders_of.nd rfl (by first | exact Or.inl rfl | exact Or.inr rfl)) (pss_one (ps_set (i := 1) sc_orders_of.nd rfl (by first | exact Or.inl rfl | exact Or.inr rfl) (pe_op (UK.add K) (pv 1) (pe_lc (own := [("row", 3)]) rfl sc_orders_of.nd (W.itAll K (pe_call G_orders_of (hr.mono (by first | exact Nat.le_refl _ | exact Nat.le_trans (by decide) (Nat.le_add_right _ n))) rfl (T.gl_orders_of) F_orders_of.kp b_orders_of_1 .nil pass0 (pa_cons (pe_lc (own := [("other", 4)]) rfl sc_orders_of.nd (W.itAll K (pv 0)) (blkOk_by (by kernel_rfl)) (fun _ _ _ _ _ => (pg_name (i := 4) sc_orders_of.nd rfl (by first | exact Or.inl rfl | exact Or.inr rfl))) (fun _ _ _ _ _ => (pts_one (pt_cmpR (W.ne K hu) (pv 4) (pv 2) (nomark _)))) (fun _ _ _ _ _ => (pv 4))) pa_nil))) (blkOk_by (by kernel_rfl)) (fun _ _ _ _ _ => (pg_name (i := 3) sc_orders_of.nd rfl (by first | exact Or.inl rfl | exact Or.inr rfl))) (fun _ _ _ _ _ => pts_nil) (fun _ _ _ _ _ => (pe_op (UK.add K) (pe_lst (pa_cons (pv 2) pa_nil)) (pv 3))))))))
        (pss_one (ps_ret (pv 1)))))), ?_⟩
    unfold m_orders_of
    try dsimp only [List.map, List.drop_succ_cons, List.drop_zero, List.length_cons, List.length_nil, Nat.reduceAdd, Nat.zero_add]
    infer_instance
abbrev N_best_order : List PySem.Str := ["question", "store", "told", "best", "least", "row", "total", "place"]
theorem sc_best_order : FnScope N_best_order ["question", "store"] (defScope d_g_best_order.st) := ⟨rfl, rfl, rfl, by decide +kernel, rfl, by decide +kernel, by decide +kernel⟩
def m_best_order : MS := (mSeq (mDrop (mCallG 1 phi_check_question (mGD (mVar 0) mGNil))) (mSeq (mDrop (mCallG 1 phi_check_store (mGD (mVar 1) mGNil))) (mSeq (mAsgG (tg3 (tgN 2) (tgN 3) (tgN 4)) (mTup (mCons (mOrE (mProp "Rule" phi_Rule_told (mVar 0)) (mProp "Question" phi_Question_told (mVar 0))) (mCons (mC .non) (mCons (mC .non) mNil))))) (mSeq (mFor (itL (mCallG 1 (phi_orders_of 8) (mGD (mLstRg (mCB dLen (mCons (mVar 2) mNil))) mGNil))) (tgN 5) (mSeq (mSet 6 (mCB dSum (mCons (mCallG 3 phi_steps_of (mGD (mLc (itL (mVar 5)) (tgN 7) [7] mYes (mOp dIxW (mVar 2) (mVar 7)) [7]) (mGD (mOrE (mProp "Rule" phi_Rule_pairs (mVar 0)) (mProp "Question" phi_Question_pairs (mVar 0))) (mGD (mCallG 1 phi_as_facts (mGD (mVar 1) mGNil)) mGNil)))) mNil))) (mIfS (mOr (mT (mOp dIsN (mVar 4) (mC .non))) (mT (mOp dLt (mVar 6) (mVar 4)))) (mPar 3 4 (mCons (mVar 5) (mCons (mVar 6) mNil))) mSkip))) (mRet (mVar 3))))))
def phi_best_order : S → Option (D × S) := runDefG m_best_order 8
theorem ok_best_order (T : Txt K mg) {fd : FuncData} (F : Fd_best_order K fd) {fd_check_question : FuncData} (F_check_question : Fd_check_question K fd_check_question) (G_check_question : FnOk PP w K mg base CX0 1 (ga K "check_question") fd_check_question ["value"] (spG (ga K) 1 phi_check_question)) {fd_check_store : FuncData} (F_check_store : Fd_check_store K fd_check_store) (G_check_store : FnOk PP w K mg base CX0 6 (ga K "check_store") fd_check_store ["value"] (spG (ga K) 1 phi_check_store)) {fd_Rule_told : FuncData} (F_Rule_told : Fd_Rule_told K fd_Rule_told) (G_Rule_told : FnOk PP w K mg base CX0 1 (pga K (ga K "Rule") "told") fd_Rule_told ["self"] (spG (ga K) 1 phi_Rule_told)) {fd_Question_told : FuncData} (F_Question_told : Fd_Question_told K fd_Question_told) (G_Question_told : FnOk PP w K mg base CX0 1 (pga K (ga K "Question") "told") fd_Question_told ["self"] (spG (ga K) 1 phi_Question_told)) {fd_orders_of : FuncData} (F_orders_of : Fd_orders_of K fd_orders_of) (G_orders_of : FnOk PP w K mg base CX0 9 (ga K "orders_of") fd_orders_of ["places"] (spG (ga K) 1 (phi_orders_of 8))) {fd_steps_of : FuncData} (F_steps_of : Fd_steps_of K fd_steps_of) (G_steps_of : FnOk PP w K mg base CX0 4 (ga K "steps_of") fd_steps_of ["told", "pairs", "facts"] (spG (ga K) 3 phi_steps_of)) {fd_as_facts : FuncData} (F_as_facts : Fd_as_facts K fd_as_facts) (G_as_facts : FnOk PP w K mg base CX0 1 (ga K "as_facts") fd_as_facts ["store"] (spG (ga K) 1 phi_as_facts)) {fd_Rule_pairs : FuncData} (F_Rule_pairs : Fd_Rule_pairs K fd_Rule_pairs) (G_Rule_pairs : FnOk PP w K mg base CX0 1 (pga K (ga K "Rule") "pairs") fd_Rule_pairs ["self"] (spG (ga K) 1 phi_Rule_pairs)) {fd_Question_pairs : FuncData} (F_Question_pairs : Fd_Question_pairs K fd_Question_pairs) (G_Question_pairs : FnOk PP w K mg base CX0 1 (pga K (ga K "Question") "pairs") fd_Question_pairs ["self"] (spG (ga K) 1 phi_Question_pairs)) : FnOk PP w K mg base CX0 10 (ga K "best_order") fd ["question", "store"] (spG (ga K) 2 phi_best_order) := by
  have b_check_question_1 : Binds K fd_check_question ["value"] [] := F_check_question.bindsN fun _ _ _ _ _ _ us hl => match us, hl with | [_], _ => rfl
  have b_check_store_1 : Binds K fd_check_store ["value"] [] := F_check_store.bindsN fun _ _ _ _ _ _ us hl => match us, hl with | [_], _ => rfl
  have b_Rule_told_1 : Binds K fd_Rule_told ["self"] [] := F_Rule_told.bindsN fun _ _ _ _ _ _ us hl => match us, hl with | [_], _ => rfl
  have b_Question_told_1 : Binds K fd_Question_told ["self"] [] := F_Question_told.bindsN fun _ _ _ _ _ _ us hl => match us, hl with | [_], _ => rfl
  have b_orders_of_1 : Binds K fd_orders_of ["places"] [] := F_orders_of.bindsN fun _ _ _ _ _ _ us hl => match us, hl with | [_], _ => rfl
  have b_steps_of_3 : Binds K fd_steps_of ["told", "pairs", "facts"] [] := F_steps_of.bindsN fun _ _ _ _ _ _ us hl => match us, hl with | [_, _, _], _ => rfl
  have b_as_facts_1 : Binds K fd_as_facts ["store"] [] := F_as_facts.bindsN fun _ _ _ _ _ _ us hl => match us, hl with | [_], _ => rfl
  have b_Rule_pairs_1 : Binds K fd_Rule_pairs ["self"] [] := F_Rule_pairs.bindsN fun _ _ _ _ _ _ us hl => match us, hl with | [_], _ => rfl
  have b_Question_pairs_1 : Binds K fd_Question_pairs ["self"] [] := F_Question_pairs.bindsN fun _ _ _ _ _ _ us hl => match us, hl with | [_], _ => rfl
  refine okG F sc_best_order rfl (show runDefG m_best_order N_best_order.length = phi_best_order from rfl) ?_
  intro cdv A outer s H E hr
  have hu0 : (A.deeper (envOfC "best_order" (defScope d_g_best_order.st) s.heap.objs.size (ga K "best_order") cdv)).units < cLine := by have := hr.un; omega
  have hu : (A.deeper (envOfC "best_order" (defScope d_g_best_order.st) s.heap.objs.size (ga K "best_order") cdv)).units + 64 < cLine := by have := hr.un; omega
  have hu1 : (A.deeper (envOfC "best_order" (defScope d_g_best_order.st) s.heap.objs.size (ga K "best_order") cdv)).units + 1 < cLine := by have := hr.un; omega
  have hv : (A.deeper (envOfC "best_order" (defScope d_g_best_order.st) s.heap.objs.size (ga K "best_order") cdv)).units + 65 < cLine := by have := hr.un; omega
  refine ⟨_, PSs.nox (pss_cons (ps_expr (pe_call G_check_question (hr.mono (by decide)) rfl (T.gl_check_question) F_check_question.kp b_check_question_1 .nil pass0 (pa_cons (pv 0) pa_nil)))
      (pss_cons (ps_expr (pe_call G_check_store (hr.mono (by decide)) rfl (T.gl_check_store) F_check_store.kp b_check_store_1 .nil pass0 (pa_cons (pv 1) pa_nil)))
      (pss_cons (ps_asg (pe_tup (pa_cons (pe_or2 (pe_prop (ds := []) (dvs := []) (pv 0) (T.cls_Rule) (T.pr_Rule_told) G_Rule_told (hr.mono (by decide)) b_Rule_told_1 .nil pass0 rfl) (pe_prop (ds := []) (dvs := []) (pv 0) (T.cls_Question) (T.pr_Question_told) G_Question_told (hr.mono (by decide)) b_Question_told_1 .nil pass0 rfl)) (pa_cons pe_non (pa_cons pe_non pa_nil)))) (W.tup K 3 (pgs_cons (pg_name (i := 2) sc_best_order.nd rfl (by first | exact Or.inl rfl | exact Or.inr rfl)) (pgs_cons (pg_name (i := 3) sc_best_order.nd rfl (by first | exact Or.inl rfl | exact Or.inr rfl)) (pgs_cons (pg_name (i := 4) sc_best_order.nd rfl (by first | exact Or.inl rfl | exact Or.inr rfl)) pgs_nil)))))
      (pss_cons (ps_for PassesOwn.never rfl (W.itAll K (pe_call G_orders_of (hr.mono (by decide)) rfl (T.gl_orders_of) F_orders_of.kp b_orders_of_1 .nil pass0 (pa_cons (pe_listRg rfl rfl (T.fr_list) (prg_1 rfl (T.fr_range) (pe_callB (UK.c_len K) rfl (T.fr_len) U.bo_len (pa_cons (pv 2) pa_nil)))) pa_nil))) (pg_name (i := 5) sc_best_order.nd rfl (by first | exact Or.inl rfl | exact Or.inr rfl)) (pss_cons (ps_set (i := 6) sc_best_order.nd rfl (by first | exact Or.inl rfl | exact Or.inr rfl) (pe_callB (UK.c_sum K) rfl (T.fr_sum) U.bo_sum (pa_cons (pe_call G_steps_of (hr.mono (by decide)) rfl (T.gl_steps_of) F_steps_of.kp b_steps_of_3 .nil pass0 (pa_cons (pe_lc (own := [("place", 7)]) rfl sc_best_order.nd (W.itAll K (pv 5)) (blkOk_by (by kernel_rfl)) (fun _ _ _ _ _ => (pg_name (i := 7) sc_best_order.nd rfl (by first | exact Or.inl rfl | exact Or.inr rfl))) (fun _ _ _ _ _ => pts_nil) (fun _ _ _ _ _ => (pe_ix (W.ix K hu) (pv 2) (pv 7) (fun _ _ => rfl)))) (pa_cons (pe_or2 (pe_prop (ds := []) (dvs := []) (pv 0) (T.cls_Rule) (T.pr_Rule_pairs) G_Rule_pairs (hr.mono (by decide)) b_Rule_pairs_1 .nil pass0 rfl) (pe_prop (ds := []) (dvs := []) (pv 0) (T.cls_Question) (T.pr_Question_pairs) G_Question_pairs (hr.mono (by decide)) b_Question_pairs_1 .nil pass0 rfl)) (pa_cons (pe_call G_as_facts (hr.mono (by decide)) rfl (T.gl_as_facts) F_as_facts.kp b_as_facts_1 .nil pass0 (pa_cons (pv 1) pa_nil)) pa_nil)))) pa_nil)))
      (pss_one (ps_if (PW.pt (pw_or (pt_cmpR op_isN (pv 4) pe_non (nomark _)) (pw_or1 (pt_cmpR op_lt (pv 6) (pv 4) (nomark _))))) (pss_one (ps_par (i := 3) (j := 4) rfl sc_best_order.nd rfl rfl (by decide) rfl rfl (pa_cons (pv 5) (pa_cons (pv 6) pa_nil)) (by kernel_rfl))) pss_nil))))
      (pss_one (ps_ret (pv 3))))))), ?_⟩
  unfold m_best_order
  try dsimp only [List.map, List.drop_succ_cons, List.drop_zero, List.length_cons, List.length_nil, Nat.reduceAdd, Nat.zero_add]
  infer_instance
abbrev N__law_mixed : List PySem.Str := ["_law_seed", "_law_turn", "_law_at", "_law_mixed_here"]
theorem sc__law_mixed : FnScope N__law_mixed ["_law_seed", "_law_turn", "_law_at"] (defScope d_g_law_mixed.st) := ⟨rfl, rfl, rfl, by decide +kernel, rfl, by decide +kernel, by decide +kernel⟩
def m__law_mixed : MS := (mSeq (mSet 3 (mOp dAdd (mOp dMul (mVar 0) (mC (.int 69069))) (mOp dMul (mOp dMul (mC (.int 104729)) (mVar 1)) (mVar 1)))) (mSeq (mSet 3 (mOp dMod (mOp dAdd (mOp dAdd (mVar 3) (mOp dMul (mC (.int 7919)) (mVar 2))) (mVar 1)) (mC (.int 2147483647)))) (mSeq (mSet 3 (mOp dMod (mOp dAdd (mOp dMul (mVar 3) (mVar 3)) (mC (.int 40503))) (mC (.int 2147483629)))) (mRet (mOp dMod (mOp dMul (mVar 3) (mC (.int 48271))) (mC (.int 2147483587)))))))
def phi__law_mixed : S → Option (D × S) := runDefG m__law_mixed 4
theorem ok__law_mixed (T : Txt K mg) {fd : FuncData} (F : Fd__law_mixed K fd)  : FnOk PP w K mg base CX0 1 (ga K "_law_mixed") fd ["_law_seed", "_law_turn", "_law_at"] (spG (ga K) 3 phi__law_mixed) := by
  refine okG F sc__law_mixed rfl (show runDefG m__law_mixed N__law_mixed.length = phi__law_mixed from rfl) ?_
  intro cdv A outer s H E hr
  have hu0 : (A.deeper (envOfC "_law_mixed" (defScope d_g_law_mixed.st) s.heap.objs.size (ga K "_law_mixed") cdv)).units < cLine := by have := hr.un; omega
  have hu : (A.deeper (envOfC "_law_mixed" (defScope d_g_law_mixed.st) s.heap.objs.size (ga K "_law_mixed") cdv)).units + 64 < cLine := by have := hr.un; omega
  have hu1 : (A.deeper (envOfC "_law_mixed" (defScope d_g_law_mixed.st) s.heap.objs.size (ga K "_law_mixed") cdv)).units + 1 < cLine := by have := hr.un; omega
  have hv : (A.deeper (envOfC "_law_mixed" (defScope d_g_law_mixed.st) s.heap.objs.size (ga K "_law_mixed") cdv)).units + 65 < cLine := by have := hr.un; omega
  refine ⟨_, PSs.nox (pss_cons (ps_set (i := 3) sc__law_mixed.nd rfl (by first | exact Or.inl rfl | exact Or.inr rfl) (pe_op (UK.add K) (pe_op (UK.mul K) (pv 0) pe_int) (pe_op (UK.mul K) (pe_op (UK.mul K) pe_int (pv 1)) (pv 1))))
      (pss_cons (ps_set (i := 3) sc__law_mixed.nd rfl (by first | exact Or.inl rfl | exact Or.inr rfl) (pe_op U.mod (pe_op (UK.add K) (pe_op (UK.add K) (pv 3) (pe_op (UK.mul K) pe_int (pv 2))) (pv 1)) pe_int))
      (pss_cons (ps_set (i := 3) sc__law_mixed.nd rfl (by first | exact Or.inl rfl | exact Or.inr rfl) (pe_op U.mod (pe_op (UK.add K) (pe_op (UK.mul K) (pv 3) (pv 3)) pe_int) pe_int))
      (pss_one (ps_ret (pe_op U.mod (pe_op (UK.mul K) (pv 3) pe_int) pe_int)))))), ?_⟩
  unfold m__law_mixed
  try dsimp only [List.map, List.drop_succ_cons, List.drop_zero, List.length_cons, List.length_nil, Nat.reduceAdd, Nat.zero_add]
  infer_instance
abbrev N__law_draw : List PySem.Str := ["_law_purse_here", "_law_many", "_law_drawn", "_law_found", "_law_piece"]
theorem sc__law_draw : FnScope N__law_draw ["_law_purse_here", "_law_many"] (defScope d_g_law_draw.st) := ⟨rfl, rfl, rfl, by decide +kernel, rfl, by decide +kernel, by decide +kernel⟩
def m__law_draw : MS := (mSeq (mIfS (mT (mOp dGt (mIxO 0 (mC (.int 0))) (mC (.int 0)))) (mSeq (mSet 2 (mOp dMod (mIxO 0 (mC (.int 0))) (mVar 1))) (mSeq (mPutL 0 (mC (.int 0)) (mOp dFdiv (mIxO 0 (mC (.int 0))) (mVar 1))) (mRet (mVar 2)))) mSkip) (mSeq (mSet 3 (mC (.int 0))) (mSeq (mFor (itR1 (mCons (mOp dAdd (mC (.int 1)) (mOp dFdiv (mBits (mVar 1)) (mC (.int 28)))) mNil)) (tgN 4) (mSeq (mPutL 0 (mC (.int 2)) (mOp dAdd (mIxO 0 (mC (.int 2))) (mC (.int 1)))) (mSet 3 (mOp dAdd (mOp dMul (mVar 3) (mC (.int 2147483587))) (mCallG 3 phi__law_mixed (mGD (mIxO 0 (mC (.int 1))) (mGD (mIxO 0 (mC (.int 2))) (mGD (mIxO 0 (mC (.int 3))) mGNil)))))))) (mRet (mOp dMod (mVar 3) (mVar 1))))))
def phi__law_draw : S → Option (D × S) := runDefG m__law_draw 5
theorem ok__law_draw (T : Txt K mg) {fd : FuncData} (F : Fd__law_draw K fd) {fd__law_mixed : FuncData} (F__law_mixed : Fd__law_mixed K fd__law_mixed) (G__law_mixed : FnOk PP w K mg base CX0 1 (ga K "_law_mixed") fd__law_mixed ["_law_seed", "_law_turn", "_law_at"] (spG (ga K) 3 phi__law_mixed)) : FnOk PP w K mg base CX0 2 (ga K "_law_draw") fd ["_law_purse_here", "_law_many"] (spG (ga K) 2 phi__law_draw) := by
  have b__law_mixed_3 : Binds K fd__law_mixed ["_law_seed", "_law_turn", "_law_at"] [] := F__law_mixed.bindsN fun _ _ _ _ _ _ us hl => match us, hl with | [_, _, _], _ => rfl
  refine okG F sc__law_draw rfl (show runDefG m__law_draw N__law_draw.length = phi__law_draw from rfl) ?_
  intro cdv A outer s H E hr
  have hu0 : (A.deeper (envOfC "_law_draw" (defScope d_g_law_draw.st) s.heap.objs.size (ga K "_law_draw") cdv)).units < cLine := by have := hr.un; omega
  have hu : (A.deeper (envOfC "_law_draw" (defScope d_g_law_draw.st) s.heap.objs.size (ga K "_law_draw") cdv)).units + 64 < cLine := by have := hr.un; omega
  have hu1 : (A.deeper (envOfC "_law_draw" (defScope d_g_law_draw.st) s.heap.objs.size (ga K "_law_draw") cdv)).units + 1 < cLine := by have := hr.un; omega
  have hv : (A.deeper (envOfC "_law_draw" (defScope d_g_law_draw.st) s.heap.objs.size (ga K "_law_draw") cdv)).units + 65 < cLine := by have := hr.un; omega
  refine ⟨_, PSs.nox (pss_cons (ps_if (pt_cmpR op_gt (pe_ix (UK.ix K) (pv 0) pe_int (fun _ _ => rfl)) pe_int (nomark _)) (pss_cons (ps_set (i := 2) sc__law_draw.nd rfl (by first | exact Or.inl rfl | exact Or.inr rfl) (pe_op U.mod (pe_ix (UK.ix K) (pv 0) pe_int (fun _ _ => rfl)) (pv 1)))
      (pss_cons (ps_asg (pe_op U.fdiv (pe_ix (UK.ix K) (pv 0) pe_int (fun _ _ => rfl)) (pv 1)) (pg_sub (pv 0) pe_int set_list))
      (pss_one (ps_ret (pv 2))))) pss_nil)
      (pss_cons (ps_set (i := 3) sc__law_draw.nd rfl (by first | exact Or.inl rfl | exact Or.inr rfl) pe_int)
      (pss_cons (ps_for PassesOwn.never rfl (pi_range1 rfl (T.fr_range) (pa_cons (pe_op (UK.add K) pe_int (pe_op U.fdiv (pe_bits (pv 1)) pe_int)) pa_nil)) (pg_name (i := 4) sc__law_draw.nd rfl (by first | exact Or.inl rfl | exact Or.inr rfl)) (pss_cons (ps_asg (pe_op (UK.add K) (pe_ix (UK.ix K) (pv 0) pe_int (fun _ _ => rfl)) pe_int) (pg_sub (pv 0) pe_int set_list))
      (pss_one (ps_set (i := 3) sc__law_draw.nd rfl (by first | exact Or.inl rfl | exact Or.inr rfl) (pe_op (UK.add K) (pe_op (UK.mul K) (pv 3) pe_int) (pe_call G__law_mixed (hr.mono (by decide)) rfl (T.gl__law_mixed) F__law_mixed.kp b__law_mixed_3 .nil pass0 (pa_cons (pe_ix (UK.ix K) (pv 0) pe_int (fun _ _ => rfl)) (pa_cons (pe_ix (UK.ix K) (pv 0) pe_int (fun _ _ => rfl)) (pa_cons (pe_ix (UK.ix K) (pv 0) pe_int (fun _ _ => rfl)) pa_nil)))))))))
      (pss_one (ps_ret (pe_op U.mod (pv 3) (pv 1))))))), ?_⟩
  unfold m__law_draw
  try dsimp only [List.map, List.drop_succ_cons, List.drop_zero, List.length_cons, List.length_nil, Nat.reduceAdd, Nat.zero_add]
  infer_instance
abbrev N__law_one_of : List PySem.Str := ["_law_purse_here", "_law_some"]
theorem sc__law_one_of : FnScope N__law_one_of ["_law_purse_here", "_law_some"] (defScope d_g_law_one_of.st) := ⟨rfl, rfl, rfl, by decide +kernel, rfl, by decide +kernel, by decide +kernel⟩
def m__law_one_of : MS := (mRet (mOp dIxW (mVar 1) (mCallG 2 phi__law_draw (mGV 0 (mGD (mCB dLen (mCons (mVar 1) mNil)) mGNil)))))
def phi__law_one_of : S → Option (D × S) := runDefG m__law_one_of 2
theorem ok__law_one_of (T : Txt K mg) {fd : FuncData} (F : Fd__law_one_of K fd) {fd__law_draw : FuncData} (F__law_draw : Fd__law_draw K fd__law_draw) (G__law_draw : FnOk PP w K mg base CX0 2 (ga K "_law_draw") fd__law_draw ["_law_purse_here", "_law_many"] (spG (ga K) 2 phi__law_draw)) : FnOk PP w K mg base CX0 3 (ga K "_law_one_of") fd ["_law_purse_here", "_law_some"] (spG (ga K) 2 phi__law_one_of) := by
  have b__law_draw_2 : Binds K fd__law_draw ["_law_purse_here", "_law_many"] [] := F__law_draw.bindsN fun _ _ _ _ _ _ us hl => match us, hl with | [_, _], _ => rfl
  refine okG F sc__law_one_of rfl (show runDefG m__law_one_of N__law_one_of.length = phi__law_one_of from rfl) ?_
  intro cdv A outer s H E hr
  have hu0 : (A.deeper (envOfC "_law_one_of" (defScope d_g_law_one_of.st) s.heap.objs.size (ga K "_law_one_of") cdv)).units < cLine := by have := hr.un; omega
  have hu : (A.deeper (envOfC "_law_one_of" (defScope d_g_law_one_of.st) s.heap.objs.size (ga K "_law_one_of") cdv)).units + 64 < cLine := by have := hr.un; omega
  have hu1 : (A.deeper (envOfC "_law_one_of" (defScope d_g_law_one_of.st) s.heap.objs.size (ga K "_law_one_of") cdv)).units + 1 < cLine := by have := hr.un; omega
  have hv : (A.deeper (envOfC "_law_one_of" (defScope d_g_law_one_of.st) s.heap.objs.size (ga K "_law_one_of") cdv)).units + 65 < cLine := by have := hr.un; omega
  refine ⟨_, PSs.nox (pss_one (ps_ret (pe_ix (W.ix K hu) (pv 1) (pe_call G__law_draw (hr.mono (by decide)) rfl (T.gl__law_draw) F__law_draw.kp b__law_draw_2 .nil pass0 (pa_cons (pv 0) (pa_cons (pe_callB (UK.c_len K) rfl (T.fr_len) U.bo_len (pa_cons (pv 1) pa_nil)) pa_nil))) (fun _ _ => rfl)))), ?_⟩
  unfold m__law_one_of
  try dsimp only [List.map, List.drop_succ_cons, List.drop_zero, List.length_cons, List.length_nil, Nat.reduceAdd, Nat.zero_add]
  infer_instance
abbrev N__law_parts : List PySem.Str := ["_law_purse_here", "_law_body", "_law_gaps"]
theorem sc__law_parts : FnScope N__law_parts ["_law_purse_here"] (defScope d_g_law_parts.st) := ⟨rfl, rfl, rfl, by decide +kernel, rfl, by decide +kernel, by decide +kernel⟩
def m__law_parts : MS := (mSeq (mSet 1 (mLst (mCons (mTup (mCons (mStr "way") (mCons (mStr "X") (mCons (mStr "Y") mNil)))) (mCons (mTup (mCons (mStr "p") (mCons (mCallG 2 phi__law_one_of (mGV 0 (mGD (mLst (mCons (mStr "X") (mCons (mStr "Y") (mCons (mStr "a") mNil)))) mGNil))) mNil))) (mCons (mTup (mCons (mStr "way") (mCons (mStr "Y") (mCons (mStr "X") mNil)))) mNil))))) (mSeq (mSet 2 (mOp dIxW (mLst (mCons (mLst mNil) (mCons (mLst (mCons (mTup (mCons (mStr "X") (mCons (mStr "Y") mNil))) mNil)) (mCons (mLst (mCons (mTup (mCons (mStr "X") (mCons (mStr "a") mNil))) (mCons (mTup (mCons (mStr "X") (mCons (mStr "Y") mNil))) mNil))) mNil)))) (mCallG 2 phi__law_draw (mGV 0 (mGD (mC (.int 3)) mGNil))))) (mRet (mLst (mCons (mSl (mVar 1) mNo (mPart (mOp dAdd (mC (.int 1)) (mCallG 2 phi__law_draw (mGV 0 (mGD (mC (.int 3)) mGNil)))))) (mCons (mVar 2) (mCons (mSl (mLst (mCons (mTup (mCons (mStr "rain") mNil)) (mCons (mTup (mCons (mStr "q") (mCons (mStr "X") mNil))) mNil))) mNo (mPart (mCallG 2 phi__law_draw (mGV 0 (mGD (mC (.int 3)) mGNil))))) mNil)))))))
def phi__law_parts : S → Option (D × S) := runDefG m__law_parts 3
theorem ok__law_parts (T : Txt K mg) {fd : FuncData} (F : Fd__law_parts K fd) {fd__law_one_of : FuncData} (F__law_one_of : Fd__law_one_of K fd__law_one_of) (G__law_one_of : FnOk PP w K mg base CX0 3 (ga K "_law_one_of") fd__law_one_of ["_law_purse_here", "_law_some"] (spG (ga K) 2 phi__law_one_of)) {fd__law_draw : FuncData} (F__law_draw : Fd__law_draw K fd__law_draw) (G__law_draw : FnOk PP w K mg base CX0 2 (ga K "_law_draw") fd__law_draw ["_law_purse_here", "_law_many"] (spG (ga K) 2 phi__law_draw)) : FnOk PP w K mg base CX0 4 (ga K "_law_parts") fd ["_law_purse_here"] (spG (ga K) 1 phi__law_parts) := by
  have b__law_one_of_2 : Binds K fd__law_one_of ["_law_purse_here", "_law_some"] [] := F__law_one_of.bindsN fun _ _ _ _ _ _ us hl => match us, hl with | [_, _], _ => rfl
  have b__law_draw_2 : Binds K fd__law_draw ["_law_purse_here", "_law_many"] [] := F__law_draw.bindsN fun _ _ _ _ _ _ us hl => match us, hl with | [_, _], _ => rfl
  refine okG F sc__law_parts rfl (show runDefG m__law_parts N__law_parts.length = phi__law_parts from rfl) ?_
  intro cdv A outer s H E hr
  have hu0 : (A.deeper (envOfC "_law_parts" (defScope d_g_law_parts.st) s.heap.objs.size (ga K "_law_parts") cdv)).units < cLine := by have := hr.un; omega
  have hu : (A.deeper (envOfC "_law_parts" (defScope d_g_law_parts.st) s.heap.objs.size (ga K "_law_parts") cdv)).units + 64 < cLine := by have := hr.un; omega
  have hu1 : (A.deeper (envOfC "_law_parts" (defScope d_g_law_parts.st) s.heap.objs.size (ga K "_law_parts") cdv)).units + 1 < cLine := by have := hr.un; omega
  have hv : (A.deeper (envOfC "_law_parts" (defScope d_g_law_parts.st) s.heap.objs.size (ga K "_law_parts") cdv)).units + 65 < cLine := by have := hr.un; omega
  refine ⟨_, PSs.nox (pss_cons (ps_set (i := 1) sc__law_parts.nd rfl (by first | exact Or.inl rfl | exact Or.inr rfl) (pe_lst (pa_cons (pe_tup (pa_cons pe_str (pa_cons pe_str (pa_cons pe_str pa_nil)))) (pa_cons (pe_tup (pa_cons pe_str (pa_cons (pe_call G__law_one_of (hr.mono (by decide)) rfl (T.gl__law_one_of) F__law_one_of.kp b__law_one_of_2 .nil pass0 (pa_cons (pv 0) (pa_cons (pe_lst (pa_cons pe_str (pa_cons pe_str (pa_cons pe_str pa_nil)))) pa_nil))) pa_nil))) (pa_cons (pe_tup (pa_cons pe_str (pa_cons pe_str (pa_cons pe_str pa_nil)))) pa_nil)))))
      (pss_cons (ps_set (i := 2) sc__law_parts.nd rfl (by first | exact Or.inl rfl | exact Or.inr rfl) (pe_ix (W.ix K hu) (pe_lst (pa_cons (pe_lst pa_nil) (pa_cons (pe_lst (pa_cons (pe_tup (pa_cons pe_str (pa_cons pe_str pa_nil))) pa_nil)) (pa_cons (pe_lst (pa_cons (pe_tup (pa_cons pe_str (pa_cons pe_str pa_nil))) (pa_cons (pe_tup (pa_cons pe_str (pa_cons pe_str pa_nil))) pa_nil))) pa_nil)))) (pe_call G__law_draw (hr.mono (by decide)) rfl (T.gl__law_draw) F__law_draw.kp b__law_draw_2 .nil pass0 (pa_cons (pv 0) (pa_cons pe_int pa_nil))) (fun _ _ => rfl)))
      (pss_one (ps_ret (pe_lst (pa_cons (pe_slice (UK.sl K) (pv 1) po_none (po_some (pe_op (UK.add K) pe_int (pe_call G__law_draw (hr.mono (by decide)) rfl (T.gl__law_draw) F__law_draw.kp b__law_draw_2 .nil pass0 (pa_cons (pv 0) (pa_cons pe_int pa_nil)))))) (pa_cons (pv 2) (pa_cons (pe_slice (UK.sl K) (pe_lst (pa_cons (pe_tup (pa_cons pe_str pa_nil)) (pa_cons (pe_tup (pa_cons pe_str (pa_cons pe_str pa_nil))) pa_nil))) po_none (po_some (pe_call G__law_draw (hr.mono (by decide)) rfl (T.gl__law_draw) F__law_draw.kp b__law_draw_2 .nil pass0 (pa_cons (pv 0) (pa_cons pe_int pa_nil))))) pa_nil)))))))), ?_⟩
  unfold m__law_parts
  try dsimp only [List.map, List.drop_succ_cons, List.drop_zero, List.length_cons, List.length_nil, Nat.reduceAdd, Nat.zero_add]
  infer_instance
abbrev N__law_bags : List PySem.Str := ["_law_purse_here", "_law_found", "_law_turn", "_law_ends", "_law_spot", "_law_thing"]
theorem sc__law_bags : FnScope N__law_bags ["_law_purse_here"] (defScope d_g_law_bags.st) := ⟨rfl, rfl, rfl, by decide +kernel, rfl, by decide +kernel, by decide +kernel⟩
def m__law_bags : MS := (mSeq (mSetO 1 (mLst mNil)) (mSeq (mFor (itR1 (mCons (mCallG 2 phi__law_draw (mGV 0 (mGD (mC (.int 6)) mGNil))) mNil)) (tgN 2) (mSeq (mSet 3 (mLc (itR1 (mCons (mC (.int 2)) mNil)) (tgN 4) [4] mYes (mCallG 2 phi__law_one_of (mGV 0 (mGD (mLst (mCons (mStr "a") (mCons (mStr "b") (mCons (mStr "x") mNil)))) mGNil))) [4])) (mSeq (mSet 5 (mCallG 2 phi__law_one_of (mGV 0 (mGD (mLst (mCons (mTup (mCons (mStr "way") (mCons (mOp dIxW (mVar 3) (mC (.int 0))) (mCons (mOp dIxW (mVar 3) (mC (.int 1))) mNil)))) (mCons (mTup (mCons (mStr "p") (mCons (mOp dIxW (mVar 3) (mC (.int 0))) mNil))) mNil))) mGNil)))) (mIfS (mT (mInO true (mVar 5) 1)) (mApp 1 (mVar 5)) mSkip)))) (mFix 1 (mRet (mVar 1)))))
def phi__law_bags : S → Option (D × S) := runDefG m__law_bags 6
theorem ok__law_bags (T : Txt K mg) {fd : FuncData} (F : Fd__law_bags K fd) {fd__law_draw : FuncData} (F__law_draw : Fd__law_draw K fd__law_draw) (G__law_draw : FnOk PP w K mg base CX0 2 (ga K "_law_draw") fd__law_draw ["_law_purse_here", "_law_many"] (spG (ga K) 2 phi__law_draw)) {fd__law_one_of : FuncData} (F__law_one_of : Fd__law_one_of K fd__law_one_of) (G__law_one_of : FnOk PP w K mg base CX0 3 (ga K "_law_one_of") fd__law_one_of ["_law_purse_here", "_law_some"] (spG (ga K) 2 phi__law_one_of)) : FnOk PP w K mg base CX0 4 (ga K "_law_bags") fd ["_law_purse_here"] (spG (ga K) 1 phi__law_bags) := by
  have b__law_draw_2 : Binds K fd__law_draw ["_law_purse_here", "_law_many"] [] := F__law_draw.bindsN fun _ _ _ _ _ _ us hl => match us, hl with | [_, _], _ => rfl
  have b__law_one_of_2 : Binds K fd__law_one_of ["_law_purse_here", "_law_some"] [] := F__law_one_of.bindsN fun _ _ _ _ _ _ us hl => match us, hl with | [_, _], _ => rfl
  refine okG F sc__law_bags rfl (show runDefG m__law_bags N__law_bags.length = phi__law_bags from rfl) ?_
  intro cdv A outer s H E hr
  have hu0 : (A.deeper (envOfC "_law_bags" (defScope d_g_law_bags.st) s.heap.objs.size (ga K "_law_bags") cdv)).units < cLine := by have := hr.un; omega
  have hu : (A.deeper (envOfC "_law_bags" (defScope d_g_law_bags.st) s.heap.objs.size (ga K "_law_bags") cdv)).units + 64 < cLine := by have := hr.un; omega
  have hu1 : (A.deeper (envOfC "_law_bags" (defScope d_g_law_bags.st) s.heap.objs.size (ga K "_law_bags") cdv)).units + 1 < cLine := by have := hr.un; omega
  have hv : (A.deeper (envOfC "_law_bags" (defScope d_g_law_bags.st) s.heap.objs.size (ga K "_law_bags") cdv)).units + 65 < cLine := by have := hr.un; omega
  refine ⟨_, PSs.nox (pss_cons (ps_set (i := 1) sc__law_bags.nd rfl (by first | exact Or.inl rfl | exact Or.inr rfl) (pe_lst pa_nil))
      (pss_cons (ps_for PassesOwn.never rfl (pi_range1 rfl (T.fr_range) (pa_cons (pe_call G__law_draw (hr.mono (by decide)) rfl (T.gl__law_draw) F__law_draw.kp b__law_draw_2 .nil pass0 (pa_cons (pv 0) (pa_cons pe_int pa_nil))) pa_nil)) (pg_name (i := 2) sc__law_bags.nd rfl (by first | exact Or.inl rfl | exact Or.inr rfl)) (pss_cons (ps_setLc (i := 3) (own := [("_law_spot", 4)]) rfl sc__law_bags.nd rfl rfl (sw_true rfl rfl rfl (by decide +kernel)) (pi_range1 rfl (T.fr_range) (pa_cons pe_int pa_nil)) (blkOk_by (by kernel_rfl)) (fun _ _ _ _ _ => (pg_name (i := 4) sc__law_bags.nd rfl (by first | exact Or.inl rfl | exact Or.inr rfl))) (fun _ _ _ _ _ => pts_nil) (fun _ _ _ _ _ => (pe_call G__law_one_of (hr.mono (by decide)) rfl (T.gl__law_one_of) F__law_one_of.kp b__law_one_of_2 .nil pass0 (pa_cons (pv 0) (pa_cons (pe_lst (pa_cons pe_str (pa_cons pe_str (pa_cons pe_str pa_nil)))) pa_nil)))))
      (pss_cons (ps_set (i := 5) sc__law_bags.nd rfl (by first | exact Or.inl rfl | exact Or.inr rfl) (pe_call G__law_one_of (hr.mono (by decide)) rfl (T.gl__law_one_of) F__law_one_of.kp b__law_one_of_2 .nil pass0 (pa_cons (pv 0) (pa_cons (pe_lst (pa_cons (pe_tup (pa_cons pe_str (pa_cons (pe_ix (W.ix K hu) (pv 3) pe_int (fun _ _ => rfl)) (pa_cons (pe_ix (W.ix K hu) (pv 3) pe_int (fun _ _ => rfl)) pa_nil)))) (pa_cons (pe_tup (pa_cons pe_str (pa_cons (pe_ix (W.ix K hu) (pv 3) pe_int (fun _ _ => rfl)) pa_nil))) pa_nil))) pa_nil))))
      (pss_one (ps_if (pt_cmpR (UK.notIn K hv) (pv 5) (pv 1) rfl) (pss_one (ps_expr (pe_bm PySem.F.plainAttrs_list PySem.F.slot_list_append PySem.F.type_list_append mt_append (pv 1) (pa_cons (pv 5) pa_nil)))) pss_nil)))))
      (pss_one (ps_ret (pv 1))))), ?_⟩
  unfold m__law_bags
  try dsimp only [List.map, List.drop_succ_cons, List.drop_zero, List.length_cons, List.length_nil, Nat.reduceAdd, Nat.zero_add]
  infer_instance
abbrev N__law_made_right : List PySem.Str := ["_law_body", "_law_gaps", "_law_bars", "_law_tops", "_law_made", "_law_whole"]
theorem sc__law_made_right : FnScope N__law_made_right ["_law_body", "_law_gaps", "_law_bars", "_law_tops"] (defScope d_g_law_made_right.st) := ⟨rfl, rfl, rfl, by decide +kernel, rfl, by decide +kernel, by decide +kernel⟩
def m__law_made_right : MS := (mSeq (mSet 4 (objM (mMake "Rule" 6 phi_Rule_init [] (mGD (mStr "r") (mGD (mTup (mCons (mStr "q") (mCons (mStr "X") mNil))) (mGD (mVar 0) (mGD (mVar 1) (mGD (mVar 2) mGNil)))))))) (mSeq (mIfS (mT (mOp (dCmpO "Rule" phi_Rule_eq true) (objM (mMakeW "Rule" 6 5 phi_Rule_init [4, 3, 2, 1, 0] (mGD (mVar 2) (mGD (mVar 1) (mGD (mVar 0) (mGD (mTup (mCons (mStr "q") (mCons (mStr "X") mNil))) (mGD (mStr "r") mGNil))))))) (mVar 4))) (mRet (mC (.bl false))) mSkip) (mSeq (mIfS (mT (mOp (dCmpO "Question" phi_Question_eq true) (objM (mMakeW "Question" 4 3 phi_Question_init [2, 1, 0] (mGD (mVar 1) (mGD (mVar 0) (mGD (mVar 3) mGNil))))) (objM (mMake "Question" 4 phi_Question_init [] (mGD (mVar 3) (mGD (mVar 0) (mGD (mVar 1) mGNil))))))) (mRet (mC (.bl false))) mSkip) (mSeq (mSet 5 (objM (mMakeW "Book" 2 1 phi_Book_init [0] (mGD (mLst (mCons (mVar 4) mNil)) mGNil)))) (mRet (mAndV (mOp (dCmpO "Book" phi_Book_eq false) (mVar 5) (objM (mMake "Book" 2 phi_Book_init [] (mGD (mLst (mCons (mVar 4) mNil)) mGNil)))) (mAndV (mOp (dCmpO "Rule" phi_Rule_eq false) (mMethW "Book" "rule" 2 1 phi_Book_rule [0] (mVar 5) (mGD (mStr "r") mGNil)) (mVar 4)) (mOp (dCmpO "Book" phi_Book_eq false) (mMethW "Book" "without" 2 1 phi_Book_without [0] (mVar 5) (mGD (mStr "r") mGNil)) (objM (mMake "Book" 2 phi_Book_init [] (mGD (mLst mNil) mGNil)))))))))))
def phi__law_made_right : S → Option (D × S) := runDefG m__law_made_right 6
theorem ok__law_made_right (T : Txt K mg) {fd : FuncData} (F : Fd__law_made_right K fd) {fd_Rule_init : FuncData} (F_Rule_init : Fd_Rule_init K fd_Rule_init) (G_Rule_init : FnOk PP w K mg base CX0 5 (ma K (ga K "Rule") "__init__") fd_Rule_init ["self", "label", "head", "told", "pairs", "denied"] (spG (ga K) 6 phi_Rule_init)) {fd_Rule_eq : FuncData} (F_Rule_eq : Fd_Rule_eq K fd_Rule_eq) (G_Rule_eq : FnOk PP w K mg base CX0 1 (ma K (ga K "Rule") "__eq__") fd_Rule_eq ["self", "other"] (spG (ga K) 2 phi_Rule_eq)) {fd_Question_eq : FuncData} (F_Question_eq : Fd_Question_eq K fd_Question_eq) (G_Question_eq : FnOk PP w K mg base CX0 1 (ma K (ga K "Question") "__eq__") fd_Question_eq ["self", "other"] (spG (ga K) 2 phi_Question_eq)) {fd_Question_init : FuncData} (F_Question_init : Fd_Question_init K fd_Question_init) (G_Question_init : FnOk PP w K mg base CX0 5 (ma K (ga K "Question") "__init__") fd_Question_init ["self", "columns", "told", "pairs"] (spG (ga K) 4 phi_Question_init)) {fd_Book_init : FuncData} (F_Book_init : Fd_Book_init K fd_Book_init) (G_Book_init : FnOk PP w K mg base CX0 1 (ma K (ga K "Book") "__init__") fd_Book_init ["self", "rules"] (spG (ga K) 2 phi_Book_init)) {fd_Book_eq : FuncData} (F_Book_eq : Fd_Book_eq K fd_Book_eq) (G_Book_eq : FnOk PP w K mg base CX0 1 (ma K (ga K "Book") "__eq__") fd_Book_eq ["self", "other"] (spG (ga K) 2 phi_Book_eq)) {fd_Book_without : FuncData} (F_Book_without : Fd_Book_without K fd_Book_without) (G_Book_without : FnOk PP w K mg base CX0 4 (ma K (ga K "Book") "without") fd_Book_without ["self", "label"] (spG (ga K) 2 phi_Book_without)) {fd_Book_rule : FuncData} (F_Book_rule : Fd_Book_rule K fd_Book_rule) (G_Book_rule : FnOk PP w K mg base CX0 3 (ma K (ga K "Book") "rule") fd_Book_rule ["self", "label"] (spG (ga K) 2 phi_Book_rule)) : FnOk PP w K mg base CX0 7 (ga K "_law_made_right") fd ["_law_body", "_law_gaps", "_law_bars", "_law_tops"] (spG (ga K) 4 phi__law_made_right) := by
  obtain ⟨ds_Rule_init_6, v_Rule_init_6, b_Rule_init_6⟩ : ∃ ds, Vals ([] : List V) ds ∧ Binds K fd_Rule_init ["self", "label", "head", "told", "pairs", "denied"] ds := F_Rule_init.binds1 6 2 (by decide) rfl (fun _ _ _ _ _ _ _ us its hl hi => match us, its, hl, hi with | [_, _, _, _, _, _], [_, _], _, _ => ⟨_, rfl, rfl⟩)
  have b_Rule_eq_2 : Binds K fd_Rule_eq ["self", "other"] [] := F_Rule_eq.bindsN fun _ _ _ _ _ _ us hl => match us, hl with | [_, _], _ => rfl
  have kb_Rule_init_denied_pairs_told_head_label : KBn K fd_Rule_init ["self", "label", "head", "told", "pairs", "denied"] 1 ["denied", "pairs", "told", "head", "label"] (fun us ws => us ++ pick [4, 3, 2, 1, 0] ws) (gW1 [4, 3, 2, 1, 0]) := kb1D F_Rule_init ["denied", "pairs", "told", "head", "label"] [4, 3, 2, 1, 0] (by decide) (fun _ _ _ _ _ _ _ us its ws hl hi hw => match us, its, ws, hl, hi, hw with | [_], [_, _], [_, _, _, _, _], _, _, _ => ⟨_, rfl, rfl⟩)
  have b_Question_eq_2 : Binds K fd_Question_eq ["self", "other"] [] := F_Question_eq.bindsN fun _ _ _ _ _ _ us hl => match us, hl with | [_, _], _ => rfl
  have kb_Question_init_pairs_told_columns : KBn K fd_Question_init ["self", "columns", "told", "pairs"] 1 ["pairs", "told", "columns"] (fun us ws => us ++ pick [2, 1, 0] ws) (gW1 [2, 1, 0]) := kb1D F_Question_init ["pairs", "told", "columns"] [2, 1, 0] (by decide) (fun _ _ _ _ _ _ _ us its ws hl hi hw => match us, its, ws, hl, hi, hw with | [_], [_], [_, _, _], _, _, _ => ⟨_, rfl, rfl⟩)
  obtain ⟨ds_Question_init_4, v_Question_init_4, b_Question_init_4⟩ : ∃ ds, Vals ([] : List V) ds ∧ Binds K fd_Question_init ["self", "columns", "told", "pairs"] ds := F_Question_init.binds1 4 1 (by decide) rfl (fun _ _ _ _ _ _ _ us its hl hi => match us, its, hl, hi with | [_, _, _, _], [_], _, _ => ⟨_, rfl, rfl⟩)
  have kb_Book_init_rules : KBn K fd_Book_init ["self", "rules"] 1 ["rules"] (fun us ws => us ++ pick [0] ws) (gW1 [0]) := kb1 F_Book_init ["rules"] [0] (fun _ _ _ _ _ _ us ws h1 hl => match us, ws, h1, hl with | [_], [_], _, _ => rfl)
  have b_Book_eq_2 : Binds K fd_Book_eq ["self", "other"] [] := F_Book_eq.bindsN fun _ _ _ _ _ _ us hl => match us, hl with | [_, _], _ => rfl
  have kb_Book_without_label : KBn K fd_Book_without ["self", "label"] 1 ["label"] (fun us ws => us ++ pick [0] ws) (gW1 [0]) := kb1 F_Book_without ["label"] [0] (fun _ _ _ _ _ _ us ws h1 hl => match us, ws, h1, hl with | [_], [_], _, _ => rfl)
  have b_Book_init_2 : Binds K fd_Book_init ["self", "rules"] [] := F_Book_init.bindsN fun _ _ _ _ _ _ us hl => match us, hl with | [_, _], _ => rfl
  have kb_Book_rule_label : KBn K fd_Book_rule ["self", "label"] 1 ["label"] (fun us ws => us ++ pick [0] ws) (gW1 [0]) := kb1 F_Book_rule ["label"] [0] (fun _ _ _ _ _ _ us ws h1 hl => match us, ws, h1, hl with | [_], [_], _, _ => rfl)
  refine okG F sc__law_made_right rfl (show runDefG m__law_made_right N__law_made_right.length = phi__law_made_right from rfl) ?_
  intro cdv A outer s H E hr
  have hu0 : (A.deeper (envOfC "_law_made_right" (defScope d_g_law_made_right.st) s.heap.objs.size (ga K "_law_made_right") cdv)).units < cLine := by have := hr.un; omega
  have hu : (A.deeper (envOfC "_law_made_right" (defScope d_g_law_made_right.st) s.heap.objs.size (ga K "_law_made_right") cdv)).units + 64 < cLine := by have := hr.un; omega
  have hu1 : (A.deeper (envOfC "_law_made_right" (defScope d_g_law_made_right.st) s.heap.objs.size (ga K "_law_made_right") cdv)).units + 1 < cLine := by have := hr.un; omega
  have hv : (A.deeper (envOfC "_law_made_right" (defScope d_g_law_made_right.st) s.heap.objs.size (ga K "_law_made_right") cdv)).units + 65 < cLine := by have := hr.un; omega
  refine ⟨_, PSs.nox (pss_cons (ps_set (i := 4) sc__law_made_right.nd rfl (by first | exact Or.inl rfl | exact Or.inr rfl) (pe_make (T.mk_Rule) G_Rule_init (hr.mono (by decide)) rfl (T.gl_Rule) b_Rule_init_6 v_Rule_init_6 pass0 (pa_cons pe_str (pa_cons (pe_tup (pa_cons pe_str (pa_cons pe_str pa_nil))) (pa_cons (pv 0) (pa_cons (pv 1) (pa_cons (pv 2) pa_nil)))))))
      (pss_cons (ps_if (pt_cmpR (W.neO (T.eq_Rule) G_Rule_eq (hr.mono (by decide)) b_Rule_eq_2 pass0 hu) (pe_makeK0 (T.mk_Rule) G_Rule_init (hr.mono (by decide)) rfl (T.gl_Rule) kb_Rule_init_denied_pairs_told_head_label pass0 (pk_cons (pv 2) (pk_cons (pv 1) (pk_cons (pv 0) (pk_cons (pe_tup (pa_cons pe_str (pa_cons pe_str pa_nil))) (pk_cons pe_str pk_nil)))))) (pv 4) (nomark _)) (pss_one (ps_ret pe_bl)) pss_nil)
      (pss_cons (ps_if (pt_cmpR (W.neO (T.eq_Question) G_Question_eq (hr.mono (by decide)) b_Question_eq_2 pass0 hu) (pe_makeK0 (T.mk_Question) G_Question_init (hr.mono (by decide)) rfl (T.gl_Question) kb_Question_init_pairs_told_columns pass0 (pk_cons (pv 1) (pk_cons (pv 0) (pk_cons (pv 3) pk_nil)))) (pe_make (T.mk_Question) G_Question_init (hr.mono (by decide)) rfl (T.gl_Question) b_Question_init_4 v_Question_init_4 pass0 (pa_cons (pv 3) (pa_cons (pv 0) (pa_cons (pv 1) pa_nil)))) (nomark _)) (pss_one (ps_ret pe_bl)) pss_nil)
      (pss_cons (ps_set (i := 5) sc__law_made_right.nd rfl (by first | exact Or.inl rfl | exact Or.inr rfl) (pe_makeK0 (T.mk_Book) G_Book_init (hr.mono (by decide)) rfl (T.gl_Book) kb_Book_init_rules pass0 (pk_cons (pe_lst (pa_cons (pv 4) pa_nil)) pk_nil)))
      (pss_one (ps_ret (pe_and (pe_cmpR (W.eqO (T.eq_Book) G_Book_eq (hr.mono (by decide)) b_Book_eq_2 pass0) (pv 5) (pe_make (T.mk_Book) G_Book_init (hr.mono (by decide)) rfl (T.gl_Book) b_Book_init_2 .nil pass0 (pa_cons (pe_lst (pa_cons (pv 4) pa_nil)) pa_nil)) (nomark _)) (pe_and (pe_cmpR (W.eqO (T.eq_Rule) G_Rule_eq (hr.mono (by decide)) b_Rule_eq_2 pass0) (pe_methK (pv 5) (T.cls_Book) (T.me_Book_rule) G_Book_rule (hr.mono (by decide)) kb_Book_rule_label pass0 (pk_cons pe_str pk_nil)) (pv 4) (nomark _)) (pe_one (pe_cmpR (W.eqO (T.eq_Book) G_Book_eq (hr.mono (by decide)) b_Book_eq_2 pass0) (pe_methK (pv 5) (T.cls_Book) (T.me_Book_without) G_Book_without (hr.mono (by decide)) kb_Book_without_label pass0 (pk_cons pe_str pk_nil)) (pe_make (T.mk_Book) G_Book_init (hr.mono (by decide)) rfl (T.gl_Book) b_Book_init_2 .nil pass0 (pa_cons (pe_lst pa_nil) pa_nil)) (nomark _))))))))))), ?_⟩
  unfold m__law_made_right
  try dsimp only [List.map, List.drop_succ_cons, List.drop_zero, List.length_cons, List.length_nil, Nat.reduceAdd, Nat.zero_add]
  infer_instance
end
end K12

set_option Elab.async false
set_option linter.all false
set_option maxRecDepth 100000
set_option maxHeartbeats 400000
namespace K12
open PySem PySem.Spec PyProof.Rows L2 NE He Evl Fr
def yesD : Option (D × S) → Bool
  | some (.bl true, _) => true
  | _ => false
def st (x : PySem.Str) : D := .str x
def tu (xs : List PySem.Str) : D := .tup (xs.map .str)
def bodyOf (part : PySem.Str) (n : Nat) : D := .lst ([tu ["way", "X", "Y"], tu ["p", part], tu ["way", "Y", "X"]].take n)
/-- the seven bodies -/
def bodies : List D := [bodyOf "X" 1, bodyOf "X" 2, bodyOf "Y" 2, bodyOf "a" 2, bodyOf "X" 3, bodyOf "Y" 3, bodyOf "a" 3]
def gapss : List D := [.lst [], .lst [tu ["X", "Y"]], .lst [tu ["X", "a"], tu ["X", "Y"]]]
def barss : List D := [.lst [], .lst [tu ["rain"]], .lst [tu ["rain"], tu ["q", "X"]]]
def topss : List D := [.lst [], .lst [st "X"], .lst [st "X", st "Y"]]
def madeB (b g r : D) : Bool := topss.all fun t => yesD (phi__law_made_right [.fz b, .fz g, .fz r, .fz t])
theorem mr0_0_0 : madeB (bodies.getD 0 .non) (gapss.getD 0 .non) (barss.getD 0 .non) = true := by decide +kernel
theorem mr0_0_1 : madeB (bodies.getD 0 .non) (gapss.getD 0 .non) (barss.getD 1 .non) = true := by decide +kernel
theorem mr0_0_2 : madeB (bodies.getD 0 .non) (gapss.getD 0 .non) (barss.getD 2 .non) = true := by decide +kernel
theorem mr0_1_0 : madeB (bodies.getD 0 .non) (gapss.getD 1 .non) (barss.getD 0 .non) = true := by decide +kernel
theorem mr0_1_1 : madeB (bodies.getD 0 .non) (gapss.getD 1 .non) (barss.getD 1 .non) = true := by decide +kernel
theorem mr0_1_2 : madeB (bodies.getD 0 .non) (gapss.getD 1 .non) (barss.getD 2 .non) = true := by decide +kernel
theorem mr0_2_0 : madeB (bodies.getD 0 .non) (gapss.getD 2 .non) (barss.getD 0 .non) = true := by decide +kernel
theorem mr0_2_1 : madeB (bodies.getD 0 .non) (gapss.getD 2 .non) (barss.getD 1 .non) = true := by decide +kernel
theorem mr0_2_2 : madeB (bodies.getD 0 .non) (gapss.getD 2 .non) (barss.getD 2 .non) = true := by decide +kernel
theorem mr1_0_0 : madeB (bodies.getD 1 .non) (gapss.getD 0 .non) (barss.getD 0 .non) = true := by decide +kernel
theorem mr1_0_1 : madeB (bodies.getD 1 .non) (gapss.getD 0 .non) (barss.getD 1 .non) = true := by decide +kernel
theorem mr1_0_2 : madeB (bodies.getD 1 .non) (gapss.getD 0 .non) (barss.getD 2 .non) = true := by decide +kernel
theorem mr1_1_0 : madeB (bodies.getD 1 .non) (gapss.getD 1 .non) (barss.getD 0 .non) = true := by decide +kernel
theorem mr1_1_1 : madeB (bodies.getD 1 .non) (gapss.getD 1 .non) (barss.getD 1 .non) = true := by decide +kernel
theorem mr1_1_2 : madeB (bodies.getD 1 .non) (gapss.getD 1 .non) (barss.getD 2 .non) = true := by decide +kernel
theorem mr1_2_0 : madeB (bodies.getD 1 .non) (gapss.getD 2 .non) (barss.getD 0 .non) = true := by decide +kernel
theorem mr1_2_1 : madeB (bodies.getD 1 .non) (gapss.getD 2 .non) (barss.getD 1 .non) = true := by decide +kernel
theorem mr1_2_2 : madeB (bodies.getD 1 .non) (gapss.getD 2 .non) (barss.getD 2 .non) = true := by decide +kernel
theorem mr2_0_0 : madeB (bodies.getD 2 .non) (gapss.getD 0 .non) (barss.getD 0 .non) = true := by decide +kernel
theorem mr2_0_1 : madeB (bodies.getD 2 .non) (gapss.getD 0 .non) (barss.getD 1 .non) = true := by decide +kernel
theorem mr2_0_2 : madeB (bodies.getD 2 .non) (gapss.getD 0 .non) (barss.getD 2 .non) = true := by decide +kernel
theorem mr2_1_0 : madeB (bodies.getD 2 .non) (gapss.getD 1 .non) (barss.getD 0 .non) = true := by decide +kernel
theorem mr2_1_1 : madeB (bodies.getD 2 .non) (gapss.getD 1 .non) (barss.getD 1 .non) = true := by decide +kernel
theorem mr2_1_2 : madeB (bodies.getD 2 .non) (gapss.getD 1 .non) (barss.getD 2 .non) = true := by decide +kernel
theorem mr2_2_0 : madeB (bodies.getD 2 .non) (gapss.getD 2 .non) (barss.getD 0 .non) = true := by decide +kernel
theorem mr2_2_1 : madeB (bodies.getD 2 .non) (gapss.getD 2 .non) (barss.getD 1 .non) = true := by decide +kernel
theorem mr2_2_2 : madeB (bodies.getD 2 .non) (gapss.getD 2 .non) (barss.getD 2 .non) = true := by decide +kernel
theorem mr3_0_0 : madeB (bodies.getD 3 .non) (gapss.getD 0 .non) (barss.getD 0 .non) = true := by decide +kernel
theorem mr3_0_1 : madeB (bodies.getD 3 .non) (gapss.getD 0 .non) (barss.getD 1 .non) = true := by decide +kernel
theorem mr3_0_2 : madeB (bodies.getD 3 .non) (gapss.getD 0 .non) (barss.getD 2 .non) = true := by decide +kernel
theorem mr3_1_0 : madeB (bodies.getD 3 .non) (gapss.getD 1 .non) (barss.getD 0 .non) = true := by decide +kernel
theorem mr3_1_1 : madeB (bodies.getD 3 .non) (gapss.getD 1 .non) (barss.getD 1 .non) = true := by decide +kernel
theorem mr3_1_2 : madeB (bodies.getD 3 .non) (gapss.getD 1 .non) (barss.getD 2 .non) = true := by decide +kernel
theorem mr3_2_0 : madeB (bodies.getD 3 .non) (gapss.getD 2 .non) (barss.getD 0 .non) = true := by decide +kernel
theorem mr3_2_1 : madeB (bodies.getD 3 .non) (gapss.getD 2 .non) (barss.getD 1 .non) = true := by decide +kernel
theorem mr3_2_2 : madeB (bodies.getD 3 .non) (gapss.getD 2 .non) (barss.getD 2 .non) = true := by decide +kernel
theorem mr4_0_0 : madeB (bodies.getD 4 .non) (gapss.getD 0 .non) (barss.getD 0 .non) = true := by decide +kernel
theorem mr4_0_1 : madeB (bodies.getD 4 .non) (gapss.getD 0 .non) (barss.getD 1 .non) = true := by decide +kernel
theorem mr4_0_2 : madeB (bodies.getD 4 .non) (gapss.getD 0 .non) (barss.getD 2 .non) = true := by decide +kernel
theorem mr4_1_0 : madeB (bodies.getD 4 .non) (gapss.getD 1 .non) (barss.getD 0 .non) = true := by decide +kernel
theorem mr4_1_1 : madeB (bodies.getD 4 .non) (gapss.getD 1 .non) (barss.getD 1 .non) = true := by decide +kernel
theorem mr4_1_2 : madeB (bodies.getD 4 .non) (gapss.getD 1 .non) (barss.getD 2 .non) = true := by decide +kernel
theorem mr4_2_0 : madeB (bodies.getD 4 .non) (gapss.getD 2 .non) (barss.getD 0 .non) = true := by decide +kernel
theorem mr4_2_1 : madeB (bodies.getD 4 .non) (gapss.getD 2 .non) (barss.getD 1 .non) = true := by decide +kernel
theorem mr4_2_2 : madeB (bodies.getD 4 .non) (gapss.getD 2 .non) (barss.getD 2 .non) = true := by decide +kernel
theorem mr5_0_0 : madeB (bodies.getD 5 .non) (gapss.getD 0 .non) (barss.getD 0 .non) = true := by decide +kernel
theorem mr5_0_1 : madeB (bodies.getD 5 .non) (gapss.getD 0 .non) (barss.getD 1 .non) = true := by decide +kernel
theorem mr5_0_2 : madeB (bodies.getD 5 .non) (gapss.getD 0 .non) (barss.getD 2 .non) = true := by decide +kernel
theorem mr5_1_0 : madeB (bodies.getD 5 .non) (gapss.getD 1 .non) (barss.getD 0 .non) = true := by decide +kernel
theorem mr5_1_1 : madeB (bodies.getD 5 .non) (gapss.getD 1 .non) (barss.getD 1 .non) = true := by decide +kernel
theorem mr5_1_2 : madeB (bodies.getD 5 .non) (gapss.getD 1 .non) (barss.getD 2 .non) = true := by decide +kernel
theorem mr5_2_0 : madeB (bodies.getD 5 .non) (gapss.getD 2 .non) (barss.getD 0 .non) = true := by decide +kernel
theorem mr5_2_1 : madeB (bodies.getD 5 .non) (gapss.getD 2 .non) (barss.getD 1 .non) = true := by decide +kernel
theorem mr5_2_2 : madeB (bodies.getD 5 .non) (gapss.getD 2 .non) (barss.getD 2 .non) = true := by decide +kernel
theorem mr6_0_0 : madeB (bodies.getD 6 .non) (gapss.getD 0 .non) (barss.getD 0 .non) = true := by decide +kernel
theorem mr6_0_1 : madeB (bodies.getD 6 .non) (gapss.getD 0 .non) (barss.getD 1 .non) = true := by decide +kernel
theorem mr6_0_2 : madeB (bodies.getD 6 .non) (gapss.getD 0 .non) (barss.getD 2 .non) = true := by decide +kernel
theorem mr6_1_0 : madeB (bodies.getD 6 .non) (gapss.getD 1 .non) (barss.getD 0 .non) = true := by decide +kernel
theorem mr6_1_1 : madeB (bodies.getD 6 .non) (gapss.getD 1 .non) (barss.getD 1 .non) = true := by decide +kernel
theorem mr6_1_2 : madeB (bodies.getD 6 .non) (gapss.getD 1 .non) (barss.getD 2 .non) = true := by decide +kernel
theorem mr6_2_0 : madeB (bodies.getD 6 .non) (gapss.getD 2 .non) (barss.getD 0 .non) = true := by decide +kernel
theorem mr6_2_1 : madeB (bodies.getD 6 .non) (gapss.getD 2 .non) (barss.getD 1 .non) = true := by decide +kernel
theorem mr6_2_2 : madeB (bodies.getD 6 .non) (gapss.getD 2 .non) (barss.getD 2 .non) = true := by decide +kernel
theorem made_right : ∀ b ∈ bodies, ∀ g ∈ gapss, ∀ r ∈ barss, madeB b g r = true := by
  intro b hb g hg r hr
  simp only [bodies, gapss, barss, List.mem_cons, List.mem_nil_iff, or_false] at hb hg hr
  rcases hb with rfl | rfl | rfl | rfl | rfl | rfl | rfl <;> rcases hg with rfl | rfl | rfl <;> rcases hr with rfl | rfl | rfl
  · exact mr0_0_0
  · exact mr0_0_1
  · exact mr0_0_2
  · exact mr0_1_0
  · exact mr0_1_1
  · exact mr0_1_2
  · exact mr0_2_0
  · exact mr0_2_1
  · exact mr0_2_2
  · exact mr1_0_0
  · exact mr1_0_1
  · exact mr1_0_2
  · exact mr1_1_0
  · exact mr1_1_1
  · exact mr1_1_2
  · exact mr1_2_0
  · exact mr1_2_1
  · exact mr1_2_2
  · exact mr2_0_0
  · exact mr2_0_1
  · exact mr2_0_2
  · exact mr2_1_0
  · exact mr2_1_1
  · exact mr2_1_2
  · exact mr2_2_0
  · exact mr2_2_1
  · exact mr2_2_2
  · exact mr3_0_0
  · exact mr3_0_1
  · exact mr3_0_2
  · exact mr3_1_0
  · exact mr3_1_1
  · exact mr3_1_2
  · exact mr3_2_0
  · exact mr3_2_1
  · exact mr3_2_2
  · exact mr4_0_0
  · exact mr4_0_1
  · exact mr4_0_2
  · exact mr4_1_0
  · exact mr4_1_1
  · exact mr4_1_2
  · exact mr4_2_0
  · exact mr4_2_1
  · exact mr4_2_2
  · exact mr5_0_0
  · exact mr5_0_1
  · exact mr5_0_2
  · exact mr5_1_0
  · exact mr5_1_1
  · exact mr5_1_2
  · exact mr5_2_0
  · exact mr5_2_1
  · exact mr5_2_2
  · exact mr6_0_0
  · exact mr6_0_1
  · exact mr6_0_2
  · exact mr6_1_0
  · exact mr6_1_1
  · exact mr6_1_2
  · exact mr6_2_0
  · exact mr6_2_1
  · exact mr6_2_2
end K12

set_option Elab.async false
set_option linter.all false
set_option maxRecDepth 100000
set_option maxHeartbeats 400000
/-! plain laws of loops and comprehensions: what is kept, what the values are -/
namespace Fr
open PySem PySem.Spec PyProof.Rows L2 NE He Evl
theorem loop_inv {f : D → S → Option (Out × S)} {P : S → Prop} : ∀ {ds : List D}, (∀ d ∈ ds, ∀ s, P s → ∃ o s2, f d s = some (o, s2) ∧ (o = .nx ∨ o = .cnt) ∧ P s2) → ∀ {s : S}, P s → ∃ s2, loopM f ds s = some (.nx, s2) ∧ P s2
  | [], _, s, h => ⟨s, rfl, h⟩
  | d :: ds, hf, s, h => by
    obtain ⟨o, s2, e, eo, h2⟩ := hf d List.mem_cons_self s h
    obtain ⟨s3, e3, h3⟩ := loop_inv (fun x hx => hf x (List.mem_cons_of_mem _ hx)) h2
    refine ⟨s3, ?_, h3⟩
    unfold loopM
    rw [e]
    rcases eo with rfl | rfl <;> exact e3
/-- the same, what is told of the items already walked -/
theorem loop_at {f : D → S → Option (Out × S)} {P : List D → S → Prop} : ∀ {ds : List D} (pre : List D), (∀ (a : List D) d b, pre ++ ds = a ++ d :: b → ∀ s, P a s → ∃ o s2, f d s = some (o, s2) ∧ (o = .nx ∨ o = .cnt) ∧ P (a ++ [d]) s2) → ∀ {s : S}, P pre s → ∃ s2, loopM f ds s = some (.nx, s2) ∧ P (pre ++ ds) s2
  | [], pre, _, s, h => ⟨s, rfl, by rw [List.append_nil]; exact h⟩
  | d :: ds, pre, hf, s, h => by
    obtain ⟨o, s2, e, eo, h2⟩ := hf pre d ds rfl s h
    obtain ⟨s3, e3, h3⟩ := loop_at (ds := ds) (pre ++ [d]) (fun a x b z => hf a x b (by rw [← z]; simp)) h2
    refine ⟨s3, ?_, by simpa using h3⟩
    unfold loopM
    rw [e]
    rcases eo with rfl | rfl <;> exact e3
/-- the same, or it ends by return -/
theorem loop_ret {f : D → S → Option (Out × S)} {P : S → Prop} {R : Out → S → Prop} : ∀ {ds : List D}, (∀ d ∈ ds, ∀ s, P s → ∃ o s2, f d s = some (o, s2) ∧ (((o = .nx ∨ o = .cnt) ∧ P s2) ∨ (∃ x, o = .ret x) ∧ R o s2)) → ∀ {s : S}, P s → ∃ o s2, loopM f ds s = some (o, s2) ∧ ((o = .nx ∧ P s2) ∨ (∃ x, o = .ret x) ∧ R o s2)
  | [], _, s, h => ⟨.nx, s, rfl, .inl ⟨rfl, h⟩⟩
  | d :: ds, hf, s, h => by
    obtain ⟨o, s2, e, h2⟩ := hf d List.mem_cons_self s h
    rcases h2 with ⟨eo, h2⟩ | ⟨⟨x, rfl⟩, h2⟩
    · obtain ⟨o3, s3, e3, h3⟩ := loop_ret (fun x hx => hf x (List.mem_cons_of_mem _ hx)) h2
      refine ⟨o3, s3, ?_, h3⟩
      unfold loopM
      rw [e]
      rcases eo with rfl | rfl <;> exact e3
    · refine ⟨.ret x, s2, ?_, .inr ⟨⟨x, rfl⟩, h2⟩⟩
      unfold loopM
      rw [e]
      rfl
theorem lcM_all {tg : D → S → Option S} {t : MT} {e : M} {vs : List Nat} {s : S} {Good : D → Prop} : ∀ {ds acc : List D}, (∀ d ∈ ds, ∃ s1 b s2, tg d s = some s1 ∧ t s1 = some (b, s2) ∧ (b = true → ∃ x s3, e s2 = some (x, s3) ∧ Good x ∧ wipeS s3 vs = s) ∧ (b = false → wipeS s2 vs = s)) →
    (∀ x ∈ acc, Good x) → acc.length + ds.length ≤ 100000 → ∃ xs, lcM tg t e vs ds s acc = some (xs, s) ∧ (∀ x ∈ xs, Good x) ∧ xs.length ≤ acc.length + ds.length
  | [], acc, _, hg, _ => ⟨acc, rfl, hg, Nat.le_refl _⟩
  | d :: ds, acc, h, hg, hl => by
    obtain ⟨s1, b, s2, h1, h2, h3, h4⟩ := h d List.mem_cons_self
    have hr := fun x (hx : x ∈ ds) => h x (List.mem_cons_of_mem _ hx)
    rw [List.length_cons] at hl ⊢
    unfold lcM
    rw [h1]
    simp only [Option.bind_some, h2]
    cases b with
    | true =>
      obtain ⟨x, s3, e3, g3, w3⟩ := h3 rfl
      simp only [if_true, e3, Option.bind_some, w3]
      rw [if_pos (by omega)]
      obtain ⟨xs, r1, r2, r3⟩ := lcM_all (acc := acc ++ [x]) hr (fun y hy => by
        rcases List.mem_append.mp hy with z | z
        · exact hg y z
        · rw [List.mem_singleton.mp z]; exact g3) (by rw [List.length_append, List.length_singleton]; omega)
      rw [List.length_append, List.length_singleton] at r3
      exact ⟨xs, r1, r2, by omega⟩
    | false =>
      simp only [Bool.false_eq_true, if_false, h4 rfl]
      obtain ⟨xs, r1, r2, r3⟩ := lcM_all (acc := acc) hr hg (by omega)
      exact ⟨xs, r1, r2, by omega⟩
/-- a comprehension with no draws: a list of good values -/
theorem mLc_all {it : MA} {tg : D → S → Option S} {js vs : List Nat} {t : MT} {e : M} {s s0 : S} {ds : List D} {Good : D → Prop} (hi : it s = some (ds, s0)) (ho : (noOwn s0 vs && js.all fun j => vs.contains j) = true)
    (h : ∀ d ∈ ds, ∃ s1 b s2, tg d (wipeS s0 vs) = some s1 ∧ t s1 = some (b, s2) ∧ (b = true → ∃ x s3, e s2 = some (x, s3) ∧ Good x ∧ wipeS s3 vs = wipeS s0 vs) ∧ (b = false → wipeS s2 vs = wipeS s0 vs)) (hl : ds.length ≤ 100000) :
    ∃ xs, mLc it tg js t e vs s = some (.lst xs, backS s0 (wipeS s0 vs) vs) ∧ (∀ x ∈ xs, Good x) ∧ xs.length ≤ ds.length := by
  obtain ⟨xs, r1, r2, r3⟩ := lcM_all (acc := []) (Good := Good) h (fun x z => nomatch z) (by simpa using hl)
  refine ⟨xs, ?_, r2, by simpa using r3⟩
  unfold mLc
  rw [hi]
  simp only [Option.bind_some]
  rw [if_pos ho, r1]
  rfl
end Fr

set_option Elab.async false
set_option linter.all false
set_option maxRecDepth 100000
set_option maxHeartbeats 400000
/-! data that are the same, as a Bool -/
namespace Fr
open PySem PySem.Spec PyProof.Rows L2 NE He Evl
mutual
def sameD : D → D → Bool
  | .non, .non => true
  | .bl a, .bl b => a == b
  | .int a, .int b => decide (a = b)
  | .str a, .str b => decide (a = b)
  | .lst xs, .lst ys => sameL xs ys
  | .tup xs, .tup ys => sameL xs ys
  | .dk ks xs, .dk ls ys => decide (ks = ls) && sameL xs ys
  | .dt ks xs, .dt ls ys => decide (ks = ls) && sameL xs ys
  | .obj c ns xs, .obj e ms ys => decide (c = e) && (decide (ns = ms) && sameL xs ys)
  | _, _ => false
def sameL : List D → List D → Bool
  | [], [] => true
  | x :: xs, y :: ys => sameD x y && sameL xs ys
  | _, _ => false
end
mutual
theorem sameD_eq : ∀ {a b : D}, sameD a b = true → a = b
  | .non, b, h => by cases b <;> first | rfl | (simp [sameD] at h)
  | .bl x, b, h => by cases b <;> simp_all [sameD]
  | .int x, b, h => by cases b <;> simp_all [sameD]
  | .str x, b, h => by cases b <;> simp_all [sameD]
  | .lst xs, b, h => by
    cases b <;> first | (simp [sameD] at h; done) | skip
    rw [sameD] at h
    rw [sameL_eq h]
  | .tup xs, b, h => by
    cases b <;> first | (simp [sameD] at h; done) | skip
    rw [sameD] at h
    rw [sameL_eq h]
  | .dk ks xs, b, h => by
    cases b <;> first | (simp [sameD] at h; done) | skip
    rw [sameD, Bool.and_eq_true] at h
    rw [of_decide_eq_true h.1, sameL_eq h.2]
  | .dt ks xs, b, h => by
    cases b <;> first | (simp [sameD] at h; done) | skip
    rw [sameD, Bool.and_eq_true] at h
    rw [of_decide_eq_true h.1, sameL_eq h.2]
  | .obj c ns xs, b, h => by
    cases b <;> first | (simp [sameD] at h; done) | skip
    rw [sameD, Bool.and_eq_true, Bool.and_eq_true] at h
    rw [of_decide_eq_true h.1, of_decide_eq_true h.2.1, sameL_eq h.2.2]
theorem sameL_eq : ∀ {a b : List D}, sameL a b = true → a = b
  | [], b, h => by cases b <;> first | rfl | (simp [sameL] at h)
  | x :: xs, b, h => by
    cases b with
    | nil => simp [sameL] at h
    | cons y ys =>
      rw [sameL, Bool.and_eq_true] at h
      rw [sameD_eq h.1, sameL_eq h.2]
end
/-- a call's answer, the slots untouched but for nothing of their own: every slot given was a datum -/
def answers (r : Option (D × S)) (p : D → Bool) : Bool := match r with
  | some (d, _) => p d
  | none => false
theorem answers_some {r : Option (D × S)} {p : D → Bool} (h : answers r p = true) : ∃ d s, r = some (d, s) ∧ p d = true := by
  cases r with
  | none => cases h
  | some q => exact ⟨q.1, q.2, rfl, h⟩
def among (l : List D) (d : D) : Bool := l.any fun x => sameD x d
theorem among_mem {l : List D} {d : D} (h : among l d = true) : d ∈ l := by
  obtain ⟨x, hx, e⟩ := List.any_eq_true.mp h
  rw [← sameD_eq e]
  exact hx
end Fr

set_option Elab.async false
set_option linter.all false
set_option maxRecDepth 100000
set_option maxHeartbeats 400000
/-! plain laws: a variable read, a call on data, an assignment -/
namespace Fr
open PySem PySem.Spec PyProof.Rows L2 NE He Evl
theorem var_at {s : S} {i : Nat} {d : D} (h : s[i]? = some (.fz d)) : mVar i s = some (d, s) := by
  unfold mVar
  rw [h]
theorem gd_data {a : M} {r : MG} {s : S} {d : D} {ds : List D} (h : a s = some (d, s)) (hr : r s = some (ds.map Ag.d, s)) : mGD a r s = some ((d :: ds).map Ag.d, s) := by
  unfold mGD
  rw [h]
  simp only [Option.bind_some, hr, List.map_cons]
theorem gn_data {s : S} : mGNil s = some (([] : List D).map Ag.d, s) := rfl
theorem ag_data {s : S} : ∀ ds : List D, agS s (ds.map Ag.d) = some (ds.map Sl.fz)
  | [] => rfl
  | d :: ds => by
    rw [List.map_cons, List.map_cons]
    unfold agS
    rw [ag_data ds]
    rfl
theorem cells_data {s : S} : ∀ ds : List D, cellsA s (ds.map Ag.d) = []
  | [] => rfl
  | d :: ds => by
    rw [List.map_cons]
    unfold cellsA
    exact cells_data ds
theorem back_data {s : S} : ∀ (ds : List D) (t : S), backA (ds.map Ag.d) t s = s
  | [], t => by cases t <;> rfl
  | d :: ds, [] => by rw [List.map_cons]; rfl
  | d :: ds, x :: t => by
    rw [List.map_cons]
    unfold backA
    exact back_data ds t
theorem call_data {np : Nat} {Φ : S → Option (D × S)} {g : MG} {s t : S} {ds : List D} {d : D} (hg : g s = some (ds.map Ag.d, s)) (hl : ds.length = np) (h : Φ (ds.map Sl.fz) = some (d, t)) : mCallG np Φ g s = some (d, s) := by
  unfold mCallG
  rw [hg]
  simp only [Option.bind_some]
  unfold callG
  rw [if_pos (by rw [List.length_map]; exact hl), cells_data, if_pos (show nodupN [] = true from rfl), ag_data]
  simp only [Option.bind_some, h, Option.map_some, back_data]
theorem set_at {i : Nat} {a : M} {s : S} {d : D} (h : a s = some (d, s)) (ok : setOk s i = true) : mSet i a s = some (.nx, s.set i (.fz d)) := by
  unfold mSet
  rw [h]
  simp only [Option.bind_some]
  rw [if_pos ok]
theorem setO_at {i : Nat} {a : M} {s : S} {d : D} (h : a s = some (d, s)) (ok : setOk s i = true) : mSetO i a s = some (.nx, s.set i (.ow d)) := by
  unfold mSetO
  rw [h]
  simp only [Option.bind_some]
  rw [if_pos ok]
theorem tg_at {i : Nat} {s : S} {d : D} (ok : setOk s i = true) : tgN i d s = some (s.set i (.fz d)) := by
  unfold tgN
  rw [if_pos ok]
theorem op_at {f : D → D → Option D} {a b : M} {s : S} {x y d : D} (ha : a s = some (x, s)) (hb : b s = some (y, s)) (h : f x y = some d) : mOp f a b s = some (d, s) := by
  unfold mOp
  rw [ha]
  simp only [Option.bind_some, hb, h, Option.map_some]
theorem t_at {a : M} {s : S} {b : Bool} (ha : a s = some (.bl b, s)) (h : (D.bl b).b = some b) : mT a s = some (b, s) := by
  unfold mT
  rw [ha]
  simp only [Option.bind_some, h, Option.map_some]
theorem seq_at {a b : MS} {s s2 : S} (h : a s = some (.nx, s2)) : mSeq a b s = b s2 := by
  unfold mSeq
  rw [h]
  rfl
theorem if_at {t : MT} {a b : MS} {s : S} {c : Bool} (h : t s = some (c, s)) : mIfS t a b s = if c = true then a s else b s := by
  unfold mIfS
  rw [h]
  rfl
end Fr

set_option Elab.async false
set_option linter.all false
set_option maxRecDepth 100000
set_option maxHeartbeats 400000
/-! plain laws: equality of a datum with itself, properties, empty comprehensions, sublists -/
namespace Fr
open PySem PySem.Spec PyProof.Rows L2 NE He Evl
mutual
theorem eqv_self : ∀ d : D, d.plain = true → PyData.eqv d.py d.py = true
  | .non, _ => rfl
  | .bl b, _ => by simp [D.py, PyData.eqv]
  | .int i, _ => by simp [D.py, PyData.eqv]
  | .str x, _ => by simp [D.py, PyData.eqv]
  | .lst xs, h => by
    rw [D.py, PyData.eqv]
    exact eqv_selfs xs (by rw [D.plain] at h; exact h)
  | .tup xs, h => by
    rw [D.py, PyData.eqv]
    exact eqv_selfs xs (by rw [D.plain] at h; exact h)
  | .dk _ _, h => by rw [D.plain] at h; cases h
  | .dt _ _, h => by rw [D.plain] at h; cases h
  | .obj _ _ _, h => by rw [D.plain] at h; cases h
theorem eqv_selfs : ∀ ds : List D, plains ds = true → PyData.eqvAll (pys ds) (pys ds) = true
  | [], _ => rfl
  | d :: ds, h => by
    rw [plains, Bool.and_eq_true] at h
    rw [pys, PyData.eqvAll, eqv_self d h.1, eqv_selfs ds h.2]
    rfl
end
theorem eqW_self {d : D} (h : d.shp = true) : eqW d d = some true := by
  unfold eqW
  rw [h, if_pos (by rfl), eqv_self d (D.shp_plain h)]
theorem neW_self {d : D} (h : d.shp = true) : dNeW d d = some (.bl false) := by
  unfold dNeW
  rw [eqW_self h]
  rfl
theorem plains_of {ds : List D} (h : ∀ d ∈ ds, d.plain = true) : plains ds = true := by
  induction ds with
  | nil => rfl
  | cons d ds ih =>
    rw [plains, h d List.mem_cons_self, ih fun x hx => h x (List.mem_cons_of_mem _ hx)]
    rfl
/-- a list of data, none of them deeper than n -/
theorem dep_all {n : Nat} : ∀ {ds : List D}, (∀ d ∈ ds, d.py.depth ≤ n) → PyData.depthAll (pys ds) ≤ n
  | [], _ => by rw [pys, PyData.depthAll]; exact Nat.zero_le _
  | d :: ds, h => by
    rw [pys, PyData.depthAll]
    exact Nat.max_le.mpr ⟨h d List.mem_cons_self, dep_all fun x hx => h x (List.mem_cons_of_mem _ hx)⟩
theorem shp_lst {ds : List D} {n : Nat} (hp : ∀ d ∈ ds, d.plain = true) (hd : ∀ d ∈ ds, d.py.depth ≤ n) (hn : n < 64) : (D.lst ds).shp = true := by
  unfold D.shp
  rw [D.plain, plains_of hp, D.py, PyData.depth]
  have := dep_all hd
  exact decide_eq_true (by omega)
theorem prop_at {i : Nat} {s : S} {q d : D} {c : PySem.Str} {Φ : S → Option (D × S)} {z : S} (h : s[i]? = some (.fz q)) (hc : q.isObj c = true) (hp : Φ [.fz q] = some (d, z)) : mProp c Φ (mVar i) s = some (d, s) := by
  unfold mProp
  rw [var_at h]
  simp only [Option.bind_some, hc, if_true, hp, Option.map_some]
theorem prop_no {i : Nat} {s : S} {q : D} {c : PySem.Str} {Φ : S → Option (D × S)} (h : s[i]? = some (.fz q)) (hc : q.isObj c = false) : mProp c Φ (mVar i) s = none := by
  unfold mProp
  rw [var_at h]
  simp [hc]
theorem orE_at {a b : M} {s : S} (ha : a s = none) : mOrE a b s = b s := by
  unfold mOrE
  rw [ha]
theorem drop_at {a : M} {s : S} {d : D} (h : a s = some (d, s)) : mDrop a s = some (.nx, s) := by
  unfold mDrop
  rw [h]
  rfl
theorem not_at {a : MT} {s s2 : S} {b : Bool} (h : a s = some (b, s2)) : mNot a s = some (!b, s2) := by
  unfold mNot
  rw [h]
  rfl
theorem or_no {a b : MT} {s s2 : S} (h : a s = some (false, s2)) : mOr a b s = b s2 := by
  unfold mOr
  rw [h]
  rfl
theorem ret_at {a : M} {s s2 : S} {d : D} (h : a s = some (d, s2)) : mRet a s = some (.ret d, s2) := by
  unfold mRet
  rw [h]
  rfl
/-- a comprehension none of whose items passes -/
theorem lcM_no {tg : D → S → Option S} {t : MT} {e : M} {vs : List Nat} {s : S} : ∀ {ds acc : List D}, (∀ d ∈ ds, ∃ s1 s2, tg d s = some s1 ∧ t s1 = some (false, s2) ∧ wipeS s2 vs = s) → lcM tg t e vs ds s acc = some (acc, s)
  | [], acc, _ => rfl
  | d :: ds, acc, h => by
    obtain ⟨s1, s2, h1, h2, h3⟩ := h d List.mem_cons_self
    unfold lcM
    rw [h1]
    simp only [Option.bind_some, h2, Bool.false_eq_true, if_false, h3]
    exact lcM_no fun x hx => h x (List.mem_cons_of_mem _ hx)
theorem mLc_no {it : MA} {tg : D → S → Option S} {js vs : List Nat} {t : MT} {e : M} {s s0 : S} {ds : List D} (hi : it s = some (ds, s0)) (ho : (noOwn s0 vs && js.all fun j => vs.contains j) = true)
    (h : ∀ d ∈ ds, ∃ s1 s2, tg d (wipeS s0 vs) = some s1 ∧ t s1 = some (false, s2) ∧ wipeS s2 vs = wipeS s0 vs) : mLc it tg js t e vs s = some (.lst [], backS s0 (wipeS s0 vs) vs) := by
  unfold mLc
  rw [hi]
  simp only [Option.bind_some]
  rw [if_pos ho, lcM_no h]
  rfl
/-- a filter: what comes is part of what there was -/
theorem lcM_sub {tg : D → S → Option S} {t : MT} {e : M} {vs : List Nat} {s : S} : ∀ {ds acc : List D}, (∀ d ∈ ds, ∃ s1 b s2, tg d s = some s1 ∧ t s1 = some (b, s2) ∧ (b = true → ∃ s3, e s2 = some (d, s3) ∧ wipeS s3 vs = s) ∧ (b = false → wipeS s2 vs = s)) → acc.length + ds.length ≤ 100000 →
    ∃ xs, lcM tg t e vs ds s acc = some (acc ++ xs, s) ∧ xs.Sublist ds
  | [], acc, _, _ => ⟨[], by rw [List.append_nil]; rfl, List.Sublist.refl _⟩
  | d :: ds, acc, h, hl => by
    obtain ⟨s1, b, s2, h1, h2, h3, h4⟩ := h d List.mem_cons_self
    have hr := fun x (hx : x ∈ ds) => h x (List.mem_cons_of_mem _ hx)
    rw [List.length_cons] at hl
    unfold lcM
    rw [h1]
    simp only [Option.bind_some, h2]
    cases b with
    | true =>
      obtain ⟨s3, e3, w3⟩ := h3 rfl
      simp only [if_true, e3, Option.bind_some, w3]
      rw [if_pos (by omega)]
      obtain ⟨xs, r1, r2⟩ := lcM_sub (acc := acc ++ [d]) hr (by rw [List.length_append, List.length_singleton]; omega)
      exact ⟨d :: xs, by rw [r1, List.append_assoc]; rfl, r2.cons_cons d⟩
    | false =>
      simp only [Bool.false_eq_true, if_false, h4 rfl]
      obtain ⟨xs, r1, r2⟩ := lcM_sub (acc := acc) hr (by omega)
      exact ⟨xs, r1, r2.cons d⟩
theorem mLc_sub {it : MA} {tg : D → S → Option S} {js vs : List Nat} {t : MT} {e : M} {s s0 : S} {ds : List D} (hi : it s = some (ds, s0)) (ho : (noOwn s0 vs && js.all fun j => vs.contains j) = true)
    (h : ∀ d ∈ ds, ∃ s1 b s2, tg d (wipeS s0 vs) = some s1 ∧ t s1 = some (b, s2) ∧ (b = true → ∃ s3, e s2 = some (d, s3) ∧ wipeS s3 vs = wipeS s0 vs) ∧ (b = false → wipeS s2 vs = wipeS s0 vs)) (hl : ds.length ≤ 100000) :
    ∃ xs, mLc it tg js t e vs s = some (.lst xs, backS s0 (wipeS s0 vs) vs) ∧ xs.Sublist ds := by
  obtain ⟨xs, r1, r2⟩ := lcM_sub (acc := []) h (by simpa using hl)
  refine ⟨xs, ?_, r2⟩
  unfold mLc
  rw [hi]
  simp only [Option.bind_some]
  rw [if_pos ho, r1]
  rfl
theorem itL_at {a : M} {s : S} {d : D} {ds : List D} (h : a s = some (d, s)) (hi : d.itemsL = some ds) : itL a s = some (ds, s) := by
  unfold itL
  rw [h]
  simp only [Option.bind_some, hi, Option.map_some]
end Fr

set_option Elab.async false
set_option linter.all false
set_option maxRecDepth 100000
set_option maxHeartbeats 2000000
/-! a, b, c = a list of three -/
namespace Fr
open PySem PySem.Spec PyProof.Rows L2 NE He Evl
variable {cl : PySem.Str → Addr}
theorem W.unl {X : Cx} (K : PySem.W.Frag) (n : Nat) {es : List Expr} {k : Nat} {t : TGs} {pos : Pos} (h : PGs X es t) (hk : X.K = K := by rfl) (hc : X.calm = true := by rfl) (hn : (assignEach es X.env).length = n := by rfl) (hst : (assignEach es X.env).findIdx? (·.1) = none := by rfl) : PG X (.Tuple es k pos) (gUnl K n t) := hk ▸ pg_unl hc h hn hst
def tg3l (f g h : D → S → Option S) : D → S → Option S := fun d s => match d with
  | .lst [a, b, c] => (f a s).bind fun s1 => (g b s1).bind fun s2 => h c s2
  | _ => none
instance tg_threeL {K : PySem.W.Frag} {g1 g2 g3 : TG} {f1 f2 f3 : D → S → Option S} {j1 j2 j3 : List Nat} [A : TgX cl g1 f1 j1] [B : TgX cl g2 f2 j2] [C : TgX cl g3 f3 j3] : TgX cl (gUnl K 3 (gCons g1 (gCons g2 (gCons g3 gNil)))) (tg3l f1 f2 f3) (j1 ++ (j2 ++ j3)) := ⟨fun {F H σ s ad v d s'} k h e R q => by
  unfold tg3l at e
  split at e
  · rename_i da db dc
    obtain ⟨s1, e1, e2⟩ := bind_some e
    obtain ⟨s2, e2, e3⟩ := bind_some e2
    cases h with
    | lst ha dd =>
      cases dd with
      | cons h1 dd =>
        cases dd with
        | cons h2 dd =>
          cases dd with
          | cons h3 dd =>
            cases dd
            refine ⟨_, _, rfl, sq_of (k.ex _ _ ha), rfl, _, _, rfl, A.run k h1 e1 _ fun σ1 a1 x1 => ⟨_, _, rfl, B.run x1.ok h2 e2 _ fun σ2 a2 x2 => ⟨_, _, rfl, C.run x2.ok h3 e3 _ fun σ3 a3 x3 => ⟨rfl, q _ (a1.trans (a2.trans a3)) (x1.trans (x2.trans x3))⟩⟩⟩⟩
  · cases e⟩
def tg2l (f g : D → S → Option S) : D → S → Option S := fun d s => match d with
  | .lst [a, b] => (f a s).bind fun s1 => g b s1
  | _ => none
instance tg_twoL {K : PySem.W.Frag} {g1 g2 : TG} {f1 f2 : D → S → Option S} {j1 j2 : List Nat} [A : TgX cl g1 f1 j1] [B : TgX cl g2 f2 j2] : TgX cl (gUnl K 2 (gCons g1 (gCons g2 gNil))) (tg2l f1 f2) (j1 ++ j2) := ⟨fun {F H σ s ad v d s'} k h e R q => by
  unfold tg2l at e
  split at e
  · rename_i da db
    obtain ⟨s1, e1, e2⟩ := bind_some e
    cases h with
    | lst ha dd =>
      cases dd with
      | cons h1 dd =>
        cases dd with
        | cons h2 dd =>
          cases dd
          refine ⟨_, _, rfl, sq_of (k.ex _ _ ha), rfl, _, _, rfl, A.run k h1 e1 _ fun σ1 a1 x1 => ⟨_, _, rfl, B.run x1.ok h2 e2 _ fun σ2 a2 x2 => ⟨rfl, q _ (a1.trans a2) (x1.trans x2)⟩⟩⟩
  · cases e⟩
end Fr

set_option Elab.async false
set_option linter.all false
set_option maxRecDepth 100000
set_option maxHeartbeats 400000
/-! plain laws: purses, calls that are handed one, new objects -/
namespace Fr
open PySem PySem.Spec PyProof.Rows L2 NE He Evl
def pu (a b c d : Int) : D := .lst [.int a, .int b, .int c, .int d]
def POk (n : Nat) (p : D) : Prop := ∃ a b c d : Int, p = pu a b c d ∧ 0 ≤ a ∧ (0 ≤ b ∧ b < 4294967296) ∧ (0 ≤ c ∧ c ≤ n) ∧ (0 ≤ d ∧ d < 4294967296)
theorem POk.mono {m n : Nat} {p : D} (h : POk m p) (hn : m ≤ n) : POk n p := by
  obtain ⟨a, b, c, d, e, h1, h2, h3, h4⟩ := h
  exact ⟨a, b, c, d, e, h1, h2, ⟨h3.1, by omega⟩, h4⟩
theorem cell_known {l : Sl} {p : D} (h : l.cell = some p) : known l = true ∧ toArg l = some (.pm p) := by
  cases l <;> first | (cases h; done) | skip
  · cases h; exact ⟨rfl, rfl⟩
  · cases h; exact ⟨rfl, rfl⟩
theorem pcall_at {np j : Nat} {Φ : S → Option (D × S)} {r : MG} {s t : S} {ds : List D} {d p p' : D} (hj : cellAt s j = some p) (hr : r s = some (ds.map Ag.d, s)) (hl : ds.length + 1 = np) (h : Φ (.pm p :: ds.map Sl.fz) = some (d, .pm p' :: t)) : mCallG np Φ (mGV j r) s = some (d, setCell s j p') := by
  obtain ⟨l, h1, h2⟩ := cellAt_some hj
  obtain ⟨k1, k2⟩ := cell_known h2
  have e1 : mGV j r s = some (.v j :: ds.map Ag.d, s) := by
    unfold mGV
    rw [h1]
    simp only [Option.bind_some]
    rw [if_pos k1, hr]
    rfl
  have e2 : cellsA s (.v j :: ds.map Ag.d) = [j] := by
    unfold cellsA
    rw [hj, cells_data]
    rfl
  have e3 : agS s (.v j :: ds.map Ag.d) = some (.pm p :: ds.map Sl.fz) := by
    unfold agS
    rw [h1]
    simp only [Option.bind_some, k2, ag_data, Option.map_some]
  unfold mCallG
  rw [e1]
  simp only [Option.bind_some]
  unfold callG
  rw [if_pos (by rw [List.length_cons, List.length_map]; exact hl), e2, if_pos (show nodupN [j] = true from rfl), e3]
  simp only [Option.bind_some, h, Option.map_some]
  congr 2
  show backA (ds.map Ag.d) t (setCell s j p') = _
  exact back_data ds t
theorem makeG_data {c : PySem.Str} {np : Nat} {Φ : S → Option (D × S)} {s t : S} {ds : List D} {d : D} (hl : ds.length + 1 = np) (h : Φ (.pm (.obj c [] []) :: ds.map Sl.fz) = some (.non, .pm d :: t)) : makeG c np Φ (ds.map Ag.d) s = some (d, s) := by
  unfold makeG
  rw [if_pos (by rw [List.length_map]; exact hl), cells_data, if_pos (show nodupN [] = true from rfl), ag_data]
  simp only [Option.bind_some, h]
  rw [back_data]
theorem make_at {c : PySem.Str} {np : Nat} {Φ : S → Option (D × S)} {g : MG} {dfl : List D} {s t : S} {ds : List D} {d : D} (hg : g s = some (ds.map Ag.d, s)) (hl : (ds ++ dfl).length + 1 = np) (h : Φ (.pm (.obj c [] []) :: (ds ++ dfl).map Sl.fz) = some (.non, .pm d :: t)) : mMake c np Φ dfl g s = some (d, s) := by
  unfold mMake
  rw [hg]
  simp only [Option.bind_some]
  rw [← List.map_append]
  exact makeG_data hl h
theorem obj_at {m : M} {s s2 : S} {c : PySem.Str} {ns : List PySem.Str} {ds : List D} (h : m s = some (.obj c ns ds, s2)) : objM m s = some (.obj c ns ds, s2) := by
  unfold objM
  rw [h]
  rfl
theorem asgG_at {f : D → S → Option S} {a : M} {s s1 s2 : S} {d : D} (ha : a s = some (d, s1)) (hf : f d s1 = some s2) : mAsgG f a s = some (.nx, s2) := by
  unfold mAsgG
  rw [ha]
  simp only [Option.bind_some, hf, Option.map_some]
theorem seq_ret {a b : MS} {s s2 : S} {d : D} (h : a s = some (.ret d, s2)) : mSeq a b s = some (.ret d, s2) := by
  unfold mSeq
  rw [h]
  rfl
theorem op_at2 {f : D → D → Option D} {a b : M} {s s1 s2 : S} {x y d : D} (ha : a s = some (x, s1)) (hb : b s1 = some (y, s2)) (h : f x y = some d) : mOp f a b s = some (d, s2) := by
  unfold mOp
  rw [ha]
  simp only [Option.bind_some, hb, h, Option.map_some]
theorem cons_at2 {a : M} {r : MA} {s s1 s2 : S} {d : D} {ds : List D} (ha : a s = some (d, s1)) (hr : r s1 = some (ds, s2)) : mCons a r s = some (d :: ds, s2) := by
  unfold mCons
  rw [ha]
  simp only [Option.bind_some, hr]
theorem cb_at2 {f : List D → Option D} {a : MA} {s s1 : S} {ds : List D} {d : D} (ha : a s = some (ds, s1)) (h : f ds = some d) : mCB f a s = some (d, s1) := by
  unfold mCB
  rw [ha]
  simp only [Option.bind_some, h, Option.map_some]
theorem tup_at2 {a : MA} {s s1 : S} {ds : List D} (ha : a s = some (ds, s1)) (h : ds.length ≤ 100000) : mTup a s = some (.tup ds, s1) := by
  unfold mTup
  rw [ha]
  simp only [Option.bind_some]
  rw [if_pos h]
theorem lst_at2 {a : MA} {s s1 : S} {ds : List D} (ha : a s = some (ds, s1)) (h : ds.length ≤ 100000) : mLst a s = some (.lst ds, s1) := by
  unfold mLst
  rw [ha]
  simp only [Option.bind_some]
  rw [if_pos h]
theorem set_at2 {i : Nat} {a : M} {s s1 : S} {d : D} (h : a s = some (d, s1)) (ok : setOk s1 i = true) : mSet i a s = some (.nx, s1.set i (.fz d)) := by
  unfold mSet
  rw [h]
  simp only [Option.bind_some]
  rw [if_pos ok]
theorem part_at2 {a : M} {s s1 : S} {i : Int} (h : a s = some (.int i, s1)) : mPart a s = some (some i, s1) := by
  unfold mPart
  rw [h]
  rfl
theorem sl_at2 {a : M} {lo hi : MO} {s s1 s2 s3 : S} {d r : D} {l h : Option Int} (ha : a s = some (d, s1)) (hl : lo s1 = some (l, s2)) (hh : hi s2 = some (h, s3)) (e : dSl d l h = some r) : mSl a lo hi s = some (r, s3) := by
  unfold mSl
  rw [ha]
  simp only [Option.bind_some, hl, hh, e, Option.map_some]
theorem ret_at2 {a : M} {s s2 : S} {d : D} (h : a s = some (d, s2)) : mRet a s = some (.ret d, s2) := ret_at h
theorem t_at2 {a : M} {s s1 : S} {b : Bool} (ha : a s = some (.bl b, s1)) : mT a s = some (b, s1) := by
  unfold mT
  rw [ha]
  rfl
theorem str_at {x : PySem.Str} {s : S} (h : PyData.strOk x = true) : mStr x s = some (.str x, s) := by
  unfold mStr
  rw [if_pos h]
/-- f(k = ..) with all arguments by keyword, in the order is -/
theorem callW_at {np n : Nat} {Φ : S → Option (D × S)} {is : List Nat} {g : MG} {s t : S} {ds es : List D} {d : D} (hg : g s = some (ds.map Ag.d, s)) (hn : ds.length = n) (hp : pick is (ds.map Ag.d) = es.map Ag.d) (hl : es.length = np) (h : Φ (es.map Sl.fz) = some (d, t)) : mCallW np n Φ is g s = some (d, s) := by
  unfold mCallW
  rw [hg]
  simp only [Option.bind_some]
  rw [if_pos (by rw [List.length_map]; exact hn), hp]
  unfold callG
  rw [if_pos (by rw [List.length_map]; exact hl), cells_data, if_pos (show nodupN [] = true from rfl), ag_data]
  simp only [Option.bind_some, h, Option.map_some, back_data]
theorem lg {i : Int} (h0 : 0 ≤ i) (h : i < 1606938044258990275541962092341162602522202993782792835301376) : i.natAbs.log2 < 200 := by
  rcases Nat.eq_zero_or_pos i.natAbs with z | z
  · rw [z]
    decide
  · refine (Nat.log2_lt (by omega)).mpr ?_
    have e : 2 ^ 200 = 1606938044258990275541962092341162602522202993782792835301376 := by decide +kernel
    rw [e]
    omega
theorem dmul {i j : Int} (h0 : 0 ≤ i) (h : i < 1606938044258990275541962092341162602522202993782792835301376) (g0 : 0 ≤ j) (g : j < 1606938044258990275541962092341162602522202993782792835301376) : dMul (.int i) (.int j) = some (.int (i * j)) := by
  have := lg h0 h
  have := lg g0 g
  show (if i.natAbs.log2 + j.natAbs.log2 < 1000000 then some (D.int (i * j)) else none) = _
  rw [if_pos (by omega)]
theorem dmod {i j : Int} (h : 0 < j) : dMod (.int i) (.int j) = some (.int (i % j)) := by
  show (if 0 < j then some (D.int (i % j)) else none) = _
  rw [if_pos h]
theorem dfdiv {i j : Int} (h : 0 < j) (h2 : j < 1606938044258990275541962092341162602522202993782792835301376) : dFdiv (.int i) (.int j) = some (.int (i / j)) := by
  show (if 0 < j ∧ j.natAbs.log2 < 9000 then some (D.int (i / j)) else none) = _
  have := lg (Int.le_of_lt h) h2
  rw [if_pos ⟨h, by omega⟩]
theorem mul_lt' {i j a b : Int} (h0 : 0 ≤ i) (h : i < a) (g0 : 0 ≤ j) (g : j < b) : 0 ≤ i * j ∧ i * j < a * b := ⟨Int.mul_nonneg h0 g0, Int.lt_of_le_of_lt (Int.mul_le_mul_of_nonneg_left (Int.le_of_lt g) h0) (Int.mul_lt_mul_of_pos_right h (by omega))⟩
theorem mdz {i m : Int} (h : 0 < m) : 0 ≤ i % m ∧ i % m < m := ⟨Int.emod_nonneg _ (Int.ne_of_gt h), Int.emod_lt_of_pos _ h⟩
theorem bitsS {r : Int} (h0 : 0 < r) (h : r ≤ 1000) : (1 + ((Builtin.Int.intBits r : Nat) : Int) / 28) = 1 := by
  have : Builtin.Int.intBits r ≤ 11 := by
    unfold Builtin.Int.intBits
    split
    · exact Nat.zero_le _
    · obtain ⟨n, rfl⟩ := Int.eq_ofNat_of_zero_le (Int.le_of_lt h0)
      rw [Int.natAbs_natCast]
      have e : n ≠ 0 := by omega
      have := (Nat.log2_lt e (k := 10)).mpr (by omega)
      omega
  omega
end Fr

set_option Elab.async false
set_option linter.all false
set_option maxRecDepth 100000
set_option maxHeartbeats 2000000
/-! A head's facts on classes, by Bools, for the frame. -/
namespace Fr
open PySem PySem.Spec PyProof.Rows L2 NE He Cv
section
variable {K : PySem.W.Frag} {h : Heap} {mg : PySem.Str → Option Value} {C f g p : Addr} {x s m : PySem.Str}
theorem glB_ok (X : K.In h) (G : h.Ns mainGlobals mg) (b : glB K x = true) : mg x = some (.ref (ga K x)) := PySem.W.mg_of X G (eqO_ok b)
theorem frB_ok (X : K.In h) (G : h.Ns mainGlobals mg) (b : frB K x = true) : mg x = none := PySem.W.mg_none_of X G (eqO_ok b)
theorem conB_ok (X : K.In h) (G : h.Ns mainGlobals mg) (b : conB K x s = true) : ∃ t, mg x = some (.str s t) := by
  unfold conB at b
  split at b
  · rename_i y t e
    have e2 := of_decide_eq_true b
    subst e2
    exact ⟨t, PySem.W.mg_of X G e⟩
  · cases b
theorem clsFB_ok (b : clsFB K C = true) : Cls K C := by
  unfold clsFB at b
  simp only [Bool.and_eq_true] at b
  obtain ⟨b1, b2, b3, b4⟩ := b
  exact ⟨b1, b2, b3, eqO_ok b4⟩
theorem isiFB_ok (b : isiFB K C = true) : IsC K C := by
  unfold isiFB NE.eqB at b
  simp only [Bool.and_eq_true, decide_eq_true_eq] at b
  obtain ⟨b1, b2, b3, b4, b5⟩ := b
  exact ⟨clsFB_ok b1, eqO_ok b2, eqO_ok b3, b4, b5⟩
theorem mkFB_ok (b : mkFB K C f = true) : Mk K C f := by
  unfold mkFB at b
  simp only [Bool.and_eq_true] at b
  obtain ⟨b1, b2, b3, b4⟩ := b
  exact ⟨b1, eqO_ok b2, b3, b4⟩
theorem meFB_ok (b : meFB K C m f = true) : Meth K C m f := by
  unfold meFB at b
  simp only [Bool.and_eq_true] at b
  obtain ⟨b1, b2, b3⟩ := b
  exact ⟨eqO_ok b1, b2, b3⟩
theorem prFB_ok (b : prFB K C m p g = true) : PropOf K C m p g := by
  unfold prFB NE.eqB at b
  simp only [Bool.and_eq_true, decide_eq_true_eq] at b
  obtain ⟨b1, b2, b3, b4⟩ := b
  refine ⟨eqO_ok b1, eqO_ok b2, b3, ?_⟩
  split at b4
  · rename_i h rest e
    have e2 := of_decide_eq_true b4
    subst e2
    exact ⟨rest, e⟩
  · cases b4
theorem naFB_ok (b : naFB K C m = true) : NoAttr K C m := eqO_ok b
theorem eqFB_ok (b : eqFB K C f = true) : EqOf K C f := by
  unfold eqFB NE.eqB at b
  simp only [Bool.and_eq_true, decide_eq_true_eq] at b
  obtain ⟨b1, b2, b3, b4⟩ := b
  exact ⟨eqO_ok b1, b2, eqO_ok b3, b4⟩
end
end Fr

set_option Elab.async false
set_option linter.all false
set_option maxRecDepth 100000
set_option maxHeartbeats 400000
namespace K12
open PySem PySem.Spec PyProof.Rows L2 NE He Evl Fr
/-! the finite universe of k12 and the leaf functions over it, by the kernel -/
def uN : List PySem.Str := ["a", "b", "x"]
def tup' (xs : List PySem.Str) : D := .tup (xs.map .str)
def uWay : List D := uN.flatMap fun u => uN.map fun v => tup' ["way", u, v]
def uP : List D := uN.map fun u => tup' ["p", u]
def uFacts : List D := uWay ++ uP
def pWay : List D := [tup' ["way", "X", "Y"], tup' ["way", "Y", "X"]]
def pP : List D := [tup' ["p", "X"], tup' ["p", "Y"], tup' ["p", "a"]]
def dk1 (k u : PySem.Str) : D := .dk [.inr k] [.str u]
def dk2 (k l u v : PySem.Str) : D := .dk [.inr k, .inr l] [.str u, .str v]
/-- what names a match can tell -/
def uDicts : List D := .dk [] [] :: (uN.map (dk1 "X") ++ (uN.map (dk1 "Y") ++ ((uN.flatMap fun u => uN.map fun v => dk2 "X" "Y" u v) ++ (uN.flatMap fun u => uN.map fun v => dk2 "Y" "X" u v))))
def hasK (k : PySem.Str) : D → Bool
  | .dk ks _ => ks.contains (.inr k)
  | _ => false
/-- no match, or one that has at least the variables there were, and the pattern's -/
def ledOk (n p d : D) : Bool := sameD d .non || (among uDicts d && ((!(hasK "X" n || (sameD p (tup' ["p", "X"]) || pWay.any (sameD p))) || hasK "X" d) && (!(hasK "Y" n || (sameD p (tup' ["p", "Y"]) || pWay.any (sameD p))) || hasK "Y" d)))
def ledAll (p : D) (fs : List D) : Bool := uDicts.all fun n => fs.all fun f => answers (phi_led_on [.fz n, .fz p, .fz f]) (ledOk n p)
theorem led_w1 : ledAll (tup' ["way", "X", "Y"]) uWay = true := by decide +kernel
theorem led_w2 : ledAll (tup' ["way", "Y", "X"]) uWay = true := by decide +kernel
theorem led_p1 : ledAll (tup' ["p", "X"]) uP = true := by decide +kernel
theorem led_p2 : ledAll (tup' ["p", "Y"]) uP = true := by decide +kernel
theorem led_p3 : ledAll (tup' ["p", "a"]) uP = true := by decide +kernel
/-- kind_of: a tuple of the name and the count of terms -/
def kindOk (f d : D) : Bool := sameD d (if uWay.any (sameD f) || pWay.any (sameD f) then .tup [.str "way", .int 2] else .tup [.str "p", .int 1])
theorem kind_all : ((uFacts ++ (pWay ++ pP)).all fun f => answers (phi_kind_of [.fz f]) (kindOk f)) = true := by decide +kernel
def isBl : D → Bool
  | .bl _ => true
  | _ => false
def uGaps : List D := [.lst [], .lst [tup' ["X", "Y"]], .lst [tup' ["X", "a"], tup' ["X", "Y"]]]
theorem apart_all : (uDicts.all fun n => uGaps.all fun g => answers (phi_keeps_apart [.fz n, .fz g]) isBl) = true := by decide +kernel
theorem filled_all : (uDicts.all fun n => (pWay ++ pP).all fun p => answers (phi_filled [.fz p, .fz n]) fun d => match d with
  | .tup _ => true
  | _ => false) = true := by decide +kernel
end K12

set_option Elab.async false
set_option linter.all false
set_option maxRecDepth 100000
set_option maxHeartbeats 400000
namespace K12
open PySem PySem.Spec PyProof.Rows L2 NE He Evl Fr
def freeS : Sl → Prop
  | .no => True
  | .fz _ => True
  | _ => False
theorem free_ok {s : S} {i : Nat} {x : Sl} (h : s[i]? = some x) (f : freeS x) : setOk s i = true := by
  unfold setOk
  rw [h]
  cases x <;> first | rfl | exact f.elim
/-- the slots of matches_of in its inner loop -/
def sIn (told pairs denied facts ms pat some : D) (x7 : Sl) (ls : List D) (names : D) (x10 : Sl) : S := [.fz told, .fz pairs, .fz denied, .fz facts, .fz ms, .fz pat, .fz some, x7, .ow (.lst ls), .fz names, x10]
/-- what is told is kept -/
def moreL (ls : List D) : D → List D
  | .non => ls
  | d => ls ++ [d]
/-- one fact tried: led_on answers none or a match -/
theorem inner_step {told pairs denied facts ms pat some names fact d : D} {x7 x10 : Sl} {ls : List D} {t : S} (h7 : freeS x7) (h10 : freeS x10) (hl : phi_led_on [.fz names, .fz pat, .fz fact] = Option.some (d, t)) (hd : d = .non ∨ ∃ ks vs, d = .dk ks vs) (len : ls.length < 100000) :
    (tgN 7 fact (sIn told pairs denied facts ms pat some x7 ls names x10)).bind (mSeq (mSet 10 (mCallG 3 phi_led_on (mGD (mVar 9) (mGD (mVar 5) (mGD (mVar 7) mGNil))))) (mIfS (mT (mOp dNotN (mVar 10) (mC .non))) (mApp 8 (mVar 10)) mSkip)) =
      Option.some (.nx, sIn told pairs denied facts ms pat some (.fz fact) (moreL ls d) names (.fz d)) := by
  rw [tg_at (free_ok (x := x7) rfl h7)]
  show mSeq _ _ (sIn told pairs denied facts ms pat some (.fz fact) ls names x10) = _
  have e1 : mSet 10 (mCallG 3 phi_led_on (mGD (mVar 9) (mGD (mVar 5) (mGD (mVar 7) mGNil)))) (sIn told pairs denied facts ms pat some (.fz fact) ls names x10) = Option.some (.nx, sIn told pairs denied facts ms pat some (.fz fact) ls names (.fz d)) :=
    set_at (call_data (np := 3) (ds := [names, pat, fact]) (gd_data (ds := [pat, fact]) (var_at rfl) (gd_data (ds := [fact]) (var_at rfl) (gd_data (ds := []) (var_at rfl) gn_data))) rfl hl) (free_ok (x := x10) rfl h10)
  rw [seq_at e1]
  show mIfS _ _ _ (sIn told pairs denied facts ms pat some (.fz fact) ls names (.fz d)) = _
  rcases hd with rfl | ⟨ks, vs, rfl⟩
  · rfl
  · rw [if_at (c := true) rfl, if_pos rfl]
    simp [mApp, cellAt, sIn, Sl.cell, mVar, setCell, reCell, len, moreL]
abbrev bIn : MS := mSeq (mSet 10 (mCallG 3 phi_led_on (mGD (mVar 9) (mGD (mVar 5) (mGD (mVar 7) mGNil))))) (mIfS (mT (mOp dNotN (mVar 10) (mC .non))) (mApp 8 (mVar 10)) mSkip)
/-- what led_on answers: none, or a good match -/
def Led (Good : D → Prop) (names pat f : D) : Prop := ∃ d t, phi_led_on [.fz names, .fz pat, .fz f] = some (d, t) ∧ (d = .non ∨ (∃ ks vs, d = .dk ks vs) ∧ Good d)
theorem inner_loop {Good : D → Prop} {told pairs denied facts ms pat some names : D} : ∀ {fs : List D} {x7 x10 : Sl} {ls : List D}, freeS x7 → freeS x10 → (∀ f ∈ fs, Led Good names pat f) → (∀ m ∈ ls, Good m) → ls.length + fs.length < 100000 →
    ∃ y7 y10 ls', loopM (fun d s => (tgN 7 d s).bind bIn) fs (sIn told pairs denied facts ms pat some x7 ls names x10) = Option.some (.nx, sIn told pairs denied facts ms pat some y7 ls' names y10) ∧ freeS y7 ∧ freeS y10 ∧ (∀ m ∈ ls', Good m) ∧ ls'.length ≤ ls.length + fs.length
  | [], x7, x10, ls, h7, h10, _, hg, _ => ⟨x7, x10, ls, rfl, h7, h10, hg, Nat.le_refl _⟩
  | f :: fs, x7, x10, ls, h7, h10, hl, hg, len => by
    obtain ⟨d, t, e, hd⟩ := hl f List.mem_cons_self
    rw [List.length_cons] at len
    have st := inner_step (told := told) (pairs := pairs) (denied := denied) (facts := facts) (ms := ms) (some := some) h7 h10 e (hd.imp id (·.1)) (ls := ls) (by omega)
    have g2 : ∀ m ∈ moreL ls d, Good m := by
      rcases hd with rfl | ⟨⟨ks, vs, rfl⟩, gd⟩
      · exact hg
      · intro m hm
        rcases List.mem_append.mp hm with z | z
        · exact hg m z
        · rw [List.mem_singleton.mp z]; exact gd
    have l2 : (moreL ls d).length ≤ ls.length + 1 := by
      rcases hd with rfl | ⟨⟨ks, vs, rfl⟩, gd⟩
      · exact Nat.le_succ _
      · show (ls ++ [_]).length ≤ _
        rw [List.length_append, List.length_singleton]
        exact Nat.le_refl _
    obtain ⟨y7, y10, ls', r1, r2, r3, r4, r5⟩ := inner_loop (told := told) (pairs := pairs) (denied := denied) (facts := facts) (ms := ms) (some := some) (fs := fs) (x7 := .fz f) (x10 := .fz d) (ls := moreL ls d) trivial trivial (fun x hx => hl x (List.mem_cons_of_mem _ hx)) g2 (by omega)
    refine ⟨y7, y10, ls', ?_, r2, r3, r4, by rw [List.length_cons]; omega⟩
    unfold loopM
    rw [st]
    exact r1
end K12

set_option Elab.async false
set_option linter.all false
set_option maxRecDepth 100000
set_option maxHeartbeats 400000
namespace K12
open PySem PySem.Spec PyProof.Rows L2 NE He Evl Fr
/-- the slots of matches_of in its middle loop -/
def sMid (told pairs denied facts ms pat some : D) (x7 : Sl) (ls : List D) (x9 x10 : Sl) : S := [.fz told, .fz pairs, .fz denied, .fz facts, .fz ms, .fz pat, .fz some, x7, .ow (.lst ls), x9, x10]
abbrev bMid : MS := mFor (itL (mVar 6)) (tgN 7) bIn
theorem mid_step {Good : D → Prop} {told pairs denied facts ms pat names : D} {fs : List D} {x7 x9 x10 : Sl} {ls : List D} (h7 : freeS x7) (h9 : freeS x9) (h10 : freeS x10) (hl : ∀ f ∈ fs, Led Good names pat f) (hg : ∀ m ∈ ls, Good m) (len : ls.length + fs.length < 100000) :
    ∃ y7 y10 ls', (tgN 9 names (sMid told pairs denied facts ms pat (.lst fs) x7 ls x9 x10)).bind bMid = Option.some (.nx, sMid told pairs denied facts ms pat (.lst fs) y7 ls' (.fz names) y10) ∧ freeS y7 ∧ freeS y10 ∧ (∀ m ∈ ls', Good m) ∧ ls'.length ≤ ls.length + fs.length := by
  obtain ⟨y7, y10, ls', r1, r2, r3, r4, r5⟩ := inner_loop (told := told) (pairs := pairs) (denied := denied) (facts := facts) (ms := ms) (some := .lst fs) h7 h10 hl hg len
  refine ⟨y7, y10, ls', ?_, r2, r3, r4, r5⟩
  rw [tg_at (free_ok (x := x9) rfl h9)]
  exact r1
theorem mid_loop {Good : D → Prop} {told pairs denied facts ms pat : D} {fs : List D} : ∀ {ns : List D} {x7 x9 x10 : Sl} {ls : List D}, freeS x7 → freeS x9 → freeS x10 → (∀ n ∈ ns, ∀ f ∈ fs, Led Good n pat f) → (∀ m ∈ ls, Good m) → ls.length + ns.length * fs.length < 100000 →
    ∃ y7 y9 y10 ls', loopM (fun d s => (tgN 9 d s).bind bMid) ns (sMid told pairs denied facts ms pat (.lst fs) x7 ls x9 x10) = Option.some (.nx, sMid told pairs denied facts ms pat (.lst fs) y7 ls' y9 y10) ∧ freeS y7 ∧ freeS y9 ∧ freeS y10 ∧ (∀ m ∈ ls', Good m) ∧ ls'.length ≤ ls.length + ns.length * fs.length
  | [], x7, x9, x10, ls, h7, h9, h10, _, hg, _ => ⟨x7, x9, x10, ls, rfl, h7, h9, h10, hg, Nat.le_add_right _ _⟩
  | n :: ns, x7, x9, x10, ls, h7, h9, h10, hl, hg, len => by
    rw [List.length_cons, Nat.succ_mul] at len ⊢
    obtain ⟨y7, y10, l1, r1, r2, r3, r4, r5⟩ := mid_step (told := told) (pairs := pairs) (denied := denied) (facts := facts) (ms := ms) (fs := fs) h7 h9 h10 (hl n List.mem_cons_self) hg (by omega)
    obtain ⟨z7, z9, z10, l2, q1, q2, q3, q4, q5, q6⟩ := mid_loop (told := told) (pairs := pairs) (denied := denied) (facts := facts) (ms := ms) (fs := fs) (ns := ns) (x7 := y7) (x9 := .fz n) (x10 := y10) (ls := l1) r2 trivial r3 (fun x hx => hl x (List.mem_cons_of_mem _ hx)) r4 (by omega)
    refine ⟨z7, z9, z10, l2, ?_, q2, q3, q4, q5, by omega⟩
    unfold loopM
    rw [r1]
    exact q1
end K12

set_option Elab.async false
set_option linter.all false
set_option maxRecDepth 100000
set_option maxHeartbeats 400000
namespace K12
open PySem PySem.Spec PyProof.Rows L2 NE He Evl Fr
def kindD (f : D) : D := if (uWay.any (sameD f) || pWay.any (sameD f)) = true then .tup [.str "way", .int 2] else .tup [.str "p", .int 1]
def uPats : List D := pWay ++ pP
theorem kind_at {f : D} (h : f ∈ uFacts ++ uPats) : ∃ t, phi_kind_of [.fz f] = Option.some (kindD f, t) := by
  obtain ⟨d, t, e, z⟩ := answers_some (List.all_eq_true.mp kind_all f h)
  refine ⟨t, ?_⟩
  rw [e, sameD_eq z]
  rfl
def eqB (r : Option Bool) : Bool := r.isSome
theorem kind_eq {f p : D} (h : f ∈ uFacts) (hp : p ∈ uPats) : ∃ b, eqW (kindD f) (kindD p) = Option.some b := by
  have z : (uFacts.all fun f => uPats.all fun p => (eqW (kindD f) (kindD p)).isSome) = true := by decide +kernel
  exact Option.isSome_iff_exists.mp (List.all_eq_true.mp (List.all_eq_true.mp z f h) p hp)
/-- the slots of matches_of between two patterns -/
def sOut (told pairs denied facts ms pat : D) (x6 x7 x8 x9 x10 : Sl) : S := [.fz told, .fz pairs, .fz denied, .fz facts, .fz ms, .fz pat, x6, x7, x8, x9, x10]
abbrev mSome : M := mLc (itL (mVar 3)) (tgN 7) [7] (mT (mOp dEqW (mCallG 1 phi_kind_of (mGD (mVar 7) mGNil)) (mCallG 1 phi_kind_of (mGD (mVar 5) mGNil)))) (mVar 7) [7]
theorem some_step {told pairs denied facts ms pat : D} {x6 x7 x8 x9 x10 : Sl} {ds : List D} (h7 : freeS x7) (hp : pat ∈ uPats) (hi : facts.itemsL = Option.some ds) (hd : ∀ f ∈ ds, f ∈ uFacts) (len : ds.length ≤ 100000) :
    ∃ fs, mSome (sOut told pairs denied facts ms pat x6 x7 x8 x9 x10) = Option.some (.lst fs, sOut told pairs denied facts ms pat x6 x7 x8 x9 x10) ∧ (∀ f ∈ fs, f ∈ uFacts ∧ eqW (kindD f) (kindD pat) = Option.some true) ∧ fs.length ≤ ds.length := by
  have hit : itL (mVar 3) (sOut told pairs denied facts ms pat x6 x7 x8 x9 x10) = Option.some (ds, sOut told pairs denied facts ms pat x6 x7 x8 x9 x10) := by
    unfold Fr.itL
    rw [var_at (d := facts) rfl]
    show (facts.itemsL.map _) = _
    rw [hi]
    rfl
  have hno : (noOwn (sOut told pairs denied facts ms pat x6 x7 x8 x9 x10) [7] && [7].all fun j => [7].contains j) = true := by
    cases x7 <;> first | rfl | exact h7.elim
  obtain ⟨fs, r1, r2, r3⟩ := mLc_all (Good := fun f => f ∈ uFacts ∧ eqW (kindD f) (kindD pat) = Option.some true) (t := mT (mOp dEqW (mCallG 1 phi_kind_of (mGD (mVar 7) mGNil)) (mCallG 1 phi_kind_of (mGD (mVar 5) mGNil)))) (tg := tgN 7) (e := mVar 7) hit hno (fun f hf => by
    obtain ⟨t1, k1⟩ := kind_at (List.mem_append_left _ (hd f hf))
    obtain ⟨t2, k2⟩ := kind_at (List.mem_append_right uFacts hp)
    obtain ⟨b, eb⟩ := kind_eq (hd f hf) hp
    have c1 : mCallG 1 phi_kind_of (mGD (mVar 7) mGNil) (sOut told pairs denied facts ms pat x6 (.fz f) x8 x9 x10) = Option.some (kindD f, sOut told pairs denied facts ms pat x6 (.fz f) x8 x9 x10) := call_data (np := 1) (ds := [f]) (gd_data (ds := []) (var_at rfl) gn_data) rfl k1
    have c2 : mCallG 1 phi_kind_of (mGD (mVar 5) mGNil) (sOut told pairs denied facts ms pat x6 (.fz f) x8 x9 x10) = Option.some (kindD pat, sOut told pairs denied facts ms pat x6 (.fz f) x8 x9 x10) := call_data (np := 1) (ds := [pat]) (gd_data (ds := []) (var_at rfl) gn_data) rfl k2
    refine ⟨sOut told pairs denied facts ms pat x6 (.fz f) x8 x9 x10, b, sOut told pairs denied facts ms pat x6 (.fz f) x8 x9 x10, ?_, t_at (op_at c1 c2 (d := .bl b) (by unfold dEqW; rw [eb]; rfl)) rfl, fun z => ⟨f, sOut told pairs denied facts ms pat x6 (.fz f) x8 x9 x10, var_at rfl, ⟨hd f hf, by rw [eb, z]⟩, rfl⟩, fun _ => rfl⟩
    exact tg_at rfl) len
  exact ⟨fs, r1, r2, r3⟩
end K12

set_option Elab.async false
set_option linter.all false
set_option maxRecDepth 100000
set_option maxHeartbeats 400000
namespace K12
open PySem PySem.Spec PyProof.Rows L2 NE He Evl Fr
def sO5 (told pairs denied facts ms : D) (x5 x6 x7 x8 x9 x10 : Sl) : S := [.fz told, .fz pairs, .fz denied, .fz facts, .fz ms, x5, x6, x7, x8, x9, x10]
abbrev bOut : MS := mSeq (mSet 6 mSome) (mSeq (mSetO 8 (mLst mNil)) (mSeq (mFor (Fr.itL (mVar 4)) (tgN 9) bMid) (mFix 8 (mSet 4 (mVar 8)))))
/-- one pattern -/
theorem pat_step {Good : D → Prop} {told pairs denied facts pat : D} {ns ds : List D} {x5 x6 x7 x8 x9 x10 : Sl} (h5 : freeS x5) (h6 : freeS x6) (h7 : freeS x7) (h8 : freeS x8) (h9 : freeS x9) (h10 : freeS x10) (hp : pat ∈ uPats) (hi : facts.itemsL = Option.some ds) (hd : ∀ f ∈ ds, f ∈ uFacts)
    (hl : ∀ n ∈ ns, ∀ f ∈ uFacts, eqW (kindD f) (kindD pat) = Option.some true → Led Good n pat f) (len : ds.length ≤ 1000) (len2 : ns.length * ds.length < 100000) :
    ∃ y6 y7 y8 y9 y10 ns', (tgN 5 pat (sO5 told pairs denied facts (.lst ns) x5 x6 x7 x8 x9 x10)).bind bOut = Option.some (.nx, sO5 told pairs denied facts (.lst ns') (.fz pat) y6 y7 y8 y9 y10) ∧ freeS y6 ∧ freeS y7 ∧ freeS y8 ∧ freeS y9 ∧ freeS y10 ∧ (∀ m ∈ ns', Good m) ∧ ns'.length ≤ ns.length * ds.length := by
  rw [tg_at (free_ok (x := x5) rfl h5)]
  show ∃ y6 y7 y8 y9 y10 ns', bOut (sOut told pairs denied facts (.lst ns) pat x6 x7 x8 x9 x10) = _ ∧ _
  obtain ⟨fs, r1, r2, r3⟩ := some_step (told := told) (pairs := pairs) (denied := denied) (facts := facts) (ms := .lst ns) (x6 := x6) (x8 := x8) (x9 := x9) (x10 := x10) h7 hp hi hd (by omega)
  have e1 : mSet 6 mSome (sOut told pairs denied facts (.lst ns) pat x6 x7 x8 x9 x10) = Option.some (.nx, sOut told pairs denied facts (.lst ns) pat (.fz (.lst fs)) x7 x8 x9 x10) := set_at r1 (free_ok (x := x6) rfl h6)
  have e2 : mSetO 8 (mLst mNil) (sOut told pairs denied facts (.lst ns) pat (.fz (.lst fs)) x7 x8 x9 x10) = Option.some (.nx, sMid told pairs denied facts (.lst ns) pat (.lst fs) x7 [] x9 x10) := setO_at (d := .lst []) rfl (free_ok (x := x8) rfl h8)
  have hm : ns.length * fs.length ≤ ns.length * ds.length := Nat.mul_le_mul_left _ r3
  obtain ⟨y7, y9, y10, ls, q1, q2, q3, q4, q5, q6⟩ := mid_loop (Good := Good) (told := told) (pairs := pairs) (denied := denied) (facts := facts) (ms := .lst ns) (pat := pat) (fs := fs) (ns := ns) (ls := []) h7 h9 h10 (fun n hn f hf => hl n hn f (r2 f hf).1 (r2 f hf).2) (fun m z => nomatch z) (by simp only [List.length_nil]; omega)
  have e3 : mFor (Fr.itL (mVar 4)) (tgN 9) bMid (sMid told pairs denied facts (.lst ns) pat (.lst fs) x7 [] x9 x10) = Option.some (.nx, sMid told pairs denied facts (.lst ns) pat (.lst fs) y7 ls y9 y10) := q1
  refine ⟨.fz (.lst fs), y7, .fz (.lst ls), y9, y10, ls, ?_, trivial, q2, trivial, q3, q4, q5, by simp only [List.length_nil] at q6; omega⟩
  show mSeq _ _ _ = _
  rw [seq_at e1, seq_at e2, seq_at e3]
  rfl
end K12

set_option Elab.async false
set_option linter.all false
set_option maxRecDepth 100000
set_option maxHeartbeats 400000
namespace K12
open PySem PySem.Spec PyProof.Rows L2 NE He Evl Fr
def hasV (k : PySem.Str) (p : D) : Bool := sameD p (tup' ["p", k]) || pWay.any (sameD p)
/-- a match after the patterns pre: one of the universe; their variables are its keys -/
def GoodV (pre : List D) (m : D) : Prop := m ∈ uDicts ∧ (∀ p ∈ pre, hasV "X" p = true → hasK "X" m = true) ∧ (∀ p ∈ pre, hasV "Y" p = true → hasK "Y" m = true)
def ledOne (p n f : D) : Bool := match eqW (kindD f) (kindD p) with
  | some true => answers (phi_led_on [.fz n, .fz p, .fz f]) fun d => sameD d .non || (among uDicts d && ((!(hasK "X" n || hasV "X" p) || hasK "X" d) && (!(hasK "Y" n || hasV "Y" p) || hasK "Y" d)))
  | _ => true
theorem led_any : (uPats.all fun p => uDicts.all fun n => uFacts.all fun f => ledOne p n f) = true := by decide +kernel
def isDk : D → Bool
  | .dk _ _ => true
  | _ => false
theorem dicts_dk {m : D} (h : m ∈ uDicts) : ∃ ks vs, m = .dk ks vs := by
  have z : (uDicts.all isDk) = true := by decide +kernel
  have y := List.all_eq_true.mp z m h
  cases m <;> first | (cases y; done) | exact ⟨_, _, rfl⟩
theorem led_good {pre : List D} {p n f : D} (hp : p ∈ uPats) (hf : f ∈ uFacts) (hk : eqW (kindD f) (kindD p) = Option.some true) (hn : GoodV pre n) : Led (GoodV (pre ++ [p])) n p f := by
  have z := List.all_eq_true.mp (List.all_eq_true.mp (List.all_eq_true.mp led_any p hp) n hn.1) f hf
  unfold ledOne at z
  rw [hk] at z
  obtain ⟨d, t, e, y⟩ := answers_some z
  refine ⟨d, t, e, ?_⟩
  rcases Bool.or_eq_true_iff.mp y with y | y
  · exact .inl (sameD_eq y)
  · obtain ⟨y1, y⟩ := Bool.and_eq_true_iff.mp y
    obtain ⟨y2, y3⟩ := Bool.and_eq_true_iff.mp y
    have hm := among_mem y1
    refine .inr ⟨dicts_dk hm, hm, fun q hq v => ?_, fun q hq v => ?_⟩
    · rcases List.mem_append.mp hq with w | w
      · have := hn.2.1 q w v
        simpa [this] using y2
      · rw [List.mem_singleton.mp w] at v
        simpa [v] using y2
    · rcases List.mem_append.mp hq with w | w
      · have := hn.2.2 q w v
        simpa [this] using y3
      · rw [List.mem_singleton.mp w] at v
        simpa [v] using y3
end K12

set_option Elab.async false
set_option linter.all false
set_option maxRecDepth 100000
set_option maxHeartbeats 400000
namespace K12
open PySem PySem.Spec PyProof.Rows L2 NE He Evl Fr
theorem out_loop {told pairs denied facts : D} {ds : List D} (hi : facts.itemsL = Option.some ds) (hd : ∀ f ∈ ds, f ∈ uFacts) (len : ds.length ≤ 12) : ∀ {ps pre ns : List D} {x5 x6 x7 x8 x9 x10 : Sl}, freeS x5 → freeS x6 → freeS x7 → freeS x8 → freeS x9 → freeS x10 → (∀ p ∈ ps, p ∈ uPats) → (∀ m ∈ ns, GoodV pre m) → ns.length * 12 ^ ps.length < 100000 →
    ∃ y5 y6 y7 y8 y9 y10 ns', loopM (fun d s => (tgN 5 d s).bind bOut) ps (sO5 told pairs denied facts (.lst ns) x5 x6 x7 x8 x9 x10) = Option.some (.nx, sO5 told pairs denied facts (.lst ns') y5 y6 y7 y8 y9 y10) ∧ (freeS y5 ∧ freeS y6 ∧ freeS y7 ∧ freeS y8 ∧ freeS y9 ∧ freeS y10) ∧ (∀ m ∈ ns', GoodV (pre ++ ps) m) ∧ ns'.length ≤ ns.length * 12 ^ ps.length
  | [], pre, ns, x5, x6, x7, x8, x9, x10, h5, h6, h7, h8, h9, h10, _, hg, _ => ⟨x5, x6, x7, x8, x9, x10, ns, rfl, ⟨h5, h6, h7, h8, h9, h10⟩, by rw [List.append_nil]; exact hg, by simp⟩
  | p :: ps, pre, ns, x5, x6, x7, x8, x9, x10, h5, h6, h7, h8, h9, h10, hp, hg, hb => by
    rw [List.length_cons, Nat.pow_succ] at hb
    have p1 : 1 ≤ 12 ^ ps.length := Nat.pow_pos (n := ps.length) (by decide : 0 < 12)
    have m1 : ns.length * ds.length ≤ ns.length * 12 := Nat.mul_le_mul_left _ len
    have m2 : ns.length * 12 ≤ ns.length * (12 ^ ps.length * 12) := Nat.mul_le_mul_left _ (by omega)
    obtain ⟨y6, y7, y8, y9, y10, n1, r1, f6, f7, f8, f9, f10, r4, r5⟩ := pat_step (Good := GoodV (pre ++ [p])) (told := told) (pairs := pairs) (denied := denied) (facts := facts) (ns := ns) h5 h6 h7 h8 h9 h10 (hp p List.mem_cons_self) hi hd (fun n hn f hf hk => led_good (hp p List.mem_cons_self) hf hk (hg n hn)) (by omega) (by omega)
    have m3 : n1.length * 12 ^ ps.length ≤ ns.length * 12 * 12 ^ ps.length := Nat.mul_le_mul_right _ (by omega)
    have m4 : ns.length * 12 * 12 ^ ps.length = ns.length * (12 ^ ps.length * 12) := by rw [Nat.mul_assoc, Nat.mul_comm 12]
    obtain ⟨z5, z6, z7, z8, z9, z10, n2, q1, q2, q3, q4⟩ := out_loop (told := told) (pairs := pairs) (denied := denied) (facts := facts) hi hd len (ps := ps) (pre := pre ++ [p]) (ns := n1) (x5 := .fz p) trivial f6 f7 f8 f9 f10 (fun x hx => hp x (List.mem_cons_of_mem _ hx)) r4 (by omega)
    refine ⟨z5, z6, z7, z8, z9, z10, n2, ?_, q2, by simpa using q3, by rw [List.length_cons, Nat.pow_succ]; omega⟩
    unfold loopM
    rw [r1]
    exact q1
end K12

set_option Elab.async false
set_option linter.all false
set_option maxRecDepth 100000
set_option maxHeartbeats 400000
namespace K12
open PySem PySem.Spec PyProof.Rows L2 NE He Evl Fr
def uGaps2 : List D := .lst [tup' ["X", "a"]] :: uGaps
theorem apart_at {m g : D} (hm : m ∈ uDicts) (hg : g ∈ uGaps2) : ∃ b t, phi_keeps_apart [.fz m, .fz g] = Option.some (.bl b, t) := by
  have z : (uDicts.all fun n => uGaps2.all fun g => answers (phi_keeps_apart [.fz n, .fz g]) isBl) = true := by decide +kernel
  obtain ⟨d, t, e, y⟩ := answers_some (List.all_eq_true.mp (List.all_eq_true.mp z m hm) g hg)
  cases d <;> first | (cases y; done) | exact ⟨_, t, e⟩
abbrev mKeep : M := mLc (Fr.itL (mVar 4)) (tgN 9) [9] (mT (mCallG 2 phi_keeps_apart (mGD (mVar 9) (mGD (mVar 1) mGNil)))) (mVar 9) [9]
abbrev mNone : M := mLc (Fr.itL (mVar 2)) (tgN 5) [5] (mT (mOp dInW (mCallG 2 phi_filled (mGD (mVar 5) (mGD (mVar 9) mGNil))) (mVar 3))) (mVar 5) [5]
abbrev mLast : M := mLc (Fr.itL (mVar 4)) (tgN 9) [9] (mT (mOp dEqW mNone (mLst mNil))) (mVar 9) [9]
theorem keep_step {told pairs denied facts : D} {ns : List D} {x5 x6 x7 x8 x9 x10 : Sl} (h9 : freeS x9) (hp : pairs ∈ uGaps2) (hn : ∀ m ∈ ns, m ∈ uDicts) (len : ns.length ≤ 100000) :
    ∃ ns', mKeep (sO5 told pairs denied facts (.lst ns) x5 x6 x7 x8 x9 x10) = Option.some (.lst ns', sO5 told pairs denied facts (.lst ns) x5 x6 x7 x8 x9 x10) ∧ (∀ m ∈ ns', m ∈ ns) ∧ ns'.length ≤ ns.length := by
  have hno : (noOwn (sO5 told pairs denied facts (.lst ns) x5 x6 x7 x8 x9 x10) [9] && [9].all fun j => [9].contains j) = true := by
    cases x9 <;> first | rfl | exact h9.elim
  obtain ⟨ns', r1, r2, r3⟩ := mLc_all (Good := fun m => m ∈ ns) (ds := ns) (it := Fr.itL (mVar 4)) (s := sO5 told pairs denied facts (.lst ns) x5 x6 x7 x8 x9 x10) (t := mT (mCallG 2 phi_keeps_apart (mGD (mVar 9) (mGD (mVar 1) mGNil)))) (tg := tgN 9) (e := mVar 9) rfl hno (fun m hm => by
    obtain ⟨b, t, e⟩ := apart_at (hn m hm) hp
    have c1 : mCallG 2 phi_keeps_apart (mGD (mVar 9) (mGD (mVar 1) mGNil)) (sO5 told pairs denied facts (.lst ns) x5 x6 x7 x8 (.fz m) x10) = Option.some (.bl b, sO5 told pairs denied facts (.lst ns) x5 x6 x7 x8 (.fz m) x10) := call_data (np := 2) (ds := [m, pairs]) (gd_data (ds := [pairs]) (var_at rfl) (gd_data (ds := []) (var_at rfl) gn_data)) rfl e
    exact ⟨sO5 told pairs denied facts (.lst ns) x5 x6 x7 x8 (.fz m) x10, b, sO5 told pairs denied facts (.lst ns) x5 x6 x7 x8 (.fz m) x10, tg_at rfl, t_at c1 rfl, fun z => ⟨m, sO5 told pairs denied facts (.lst ns) x5 x6 x7 x8 (.fz m) x10, var_at rfl, hm, rfl⟩, fun _ => rfl⟩) len
  exact ⟨ns', r1, r2, r3⟩
theorem none_at {told pairs facts ms : D} {x5 x6 x7 x8 x9 x10 : Sl} (h5 : freeS x5) : mNone (sO5 told pairs (.lst []) facts ms x5 x6 x7 x8 x9 x10) = Option.some (.lst [], sO5 told pairs (.lst []) facts ms x5 x6 x7 x8 x9 x10) := by
  cases x5 <;> first | rfl | exact h5.elim
theorem last_step {told pairs facts : D} {ns : List D} {x5 x6 x7 x8 x9 x10 : Sl} (h5 : freeS x5) (h9 : freeS x9) (len : ns.length ≤ 100000) :
    ∃ ns', mLast (sO5 told pairs (.lst []) facts (.lst ns) x5 x6 x7 x8 x9 x10) = Option.some (.lst ns', sO5 told pairs (.lst []) facts (.lst ns) x5 x6 x7 x8 x9 x10) ∧ (∀ m ∈ ns', m ∈ ns) ∧ ns'.length ≤ ns.length := by
  have hno : (noOwn (sO5 told pairs (.lst []) facts (.lst ns) x5 x6 x7 x8 x9 x10) [9] && [9].all fun j => [9].contains j) = true := by
    cases x9 <;> first | rfl | exact h9.elim
  obtain ⟨ns', r1, r2, r3⟩ := mLc_all (Good := fun m => m ∈ ns) (ds := ns) (it := Fr.itL (mVar 4)) (s := sO5 told pairs (.lst []) facts (.lst ns) x5 x6 x7 x8 x9 x10) (t := mT (mOp dEqW mNone (mLst mNil))) (tg := tgN 9) (e := mVar 9) rfl hno (fun m hm => ⟨sO5 told pairs (.lst []) facts (.lst ns) x5 x6 x7 x8 (.fz m) x10, true, sO5 told pairs (.lst []) facts (.lst ns) x5 x6 x7 x8 (.fz m) x10, tg_at rfl, t_at (op_at (none_at h5) (y := .lst []) rfl (d := .bl true) rfl) rfl, fun z => ⟨m, sO5 told pairs (.lst []) facts (.lst ns) x5 x6 x7 x8 (.fz m) x10, var_at rfl, hm, rfl⟩, fun _ => rfl⟩) len
  exact ⟨ns', r1, r2, r3⟩
end K12

set_option Elab.async false
set_option linter.all false
set_option maxRecDepth 100000
set_option maxHeartbeats 400000
namespace K12
open PySem PySem.Spec PyProof.Rows L2 NE He Evl Fr
theorem matches_of_at {pairs facts : D} {ps ds : List D} (hi : facts.itemsL = Option.some ds) (hd : ∀ f ∈ ds, f ∈ uFacts) (len : ds.length ≤ 12) (hp : ∀ p ∈ ps, p ∈ uPats) (hg : pairs ∈ uGaps2) (hb : 12 ^ ps.length < 100000) :
    ∃ ns t, phi_matches_of [.fz (.lst ps), .fz pairs, .fz (.lst []), .fz facts] = Option.some (.lst ns, t) ∧ (∀ m ∈ ns, GoodV ps m) ∧ ns.length ≤ 12 ^ ps.length := by
  have h0 : ∀ m ∈ [D.dk [] []], GoodV [] m := fun m hm => by
    rw [List.mem_singleton.mp hm]
    exact ⟨List.mem_cons_self, fun p z => (nomatch z), fun p z => (nomatch z)⟩
  obtain ⟨y5, y6, y7, y8, y9, y10, n1, q1, ⟨f5, f6, f7, f8, f9, f10⟩, q3, q4⟩ := out_loop (told := .lst ps) (pairs := pairs) (denied := .lst []) (facts := facts) hi hd len (ps := ps) (pre := []) (ns := [.dk [] []]) (x5 := .no) (x6 := .no) (x7 := .no) (x8 := .no) (x9 := .no) (x10 := .no) trivial trivial trivial trivial trivial trivial hp h0 (by simpa using hb)
  have l1 : n1.length ≤ 12 ^ ps.length := by simpa using q4
  obtain ⟨n2, k1, k2, k3⟩ := keep_step (told := .lst ps) (denied := .lst []) (facts := facts) (x5 := y5) (x6 := y6) (x7 := y7) (x8 := y8) (x10 := y10) f9 hg (fun m hm => (q3 m hm).1) (by omega)
  obtain ⟨n3, l1', l2, l3⟩ := last_step (told := .lst ps) (pairs := pairs) (facts := facts) (ns := n2) (x6 := y6) (x7 := y7) (x8 := y8) (x10 := y10) f5 f9 (by omega)
  have e0 : mSet 4 (mLst (mCons (mFrz mDNew) mNil)) ([.fz (.lst ps), .fz pairs, .fz (.lst []), .fz facts] ++ List.replicate 7 .no) = Option.some (.nx, sO5 (.lst ps) pairs (.lst []) facts (.lst [.dk [] []]) .no .no .no .no .no .no) := rfl
  have e1 : mFor (Fr.itL (mVar 0)) (tgN 5) bOut (sO5 (.lst ps) pairs (.lst []) facts (.lst [.dk [] []]) .no .no .no .no .no .no) = Option.some (.nx, sO5 (.lst ps) pairs (.lst []) facts (.lst n1) y5 y6 y7 y8 y9 y10) := q1
  have e2 : mSet 4 mKeep (sO5 (.lst ps) pairs (.lst []) facts (.lst n1) y5 y6 y7 y8 y9 y10) = Option.some (.nx, sO5 (.lst ps) pairs (.lst []) facts (.lst n2) y5 y6 y7 y8 y9 y10) := set_at k1 rfl
  have em : m_matches_of ([.fz (.lst ps), .fz pairs, .fz (.lst []), .fz facts] ++ List.replicate 7 .no) = Option.some (.ret (.lst n3), sO5 (.lst ps) pairs (.lst []) facts (.lst n2) y5 y6 y7 y8 y9 y10) := by
    unfold m_matches_of
    rw [seq_at e0, seq_at e1, seq_at e2]
    show (mLast (sO5 (.lst ps) pairs (.lst []) facts (.lst n2) y5 y6 y7 y8 y9 y10)).map (fun p => (Out.ret p.1, p.2)) = _
    rw [l1']
    rfl
  have er : phi_matches_of [.fz (.lst ps), .fz pairs, .fz (.lst []), .fz facts] = Option.some (.lst n3, [.fz (.lst ps), .fz pairs, .fz (.lst []), .fz facts]) := by
    unfold phi_matches_of runDefG
    show ((m_matches_of ([.fz (.lst ps), .fz pairs, .fz (.lst []), .fz facts] ++ List.replicate 7 .no)).bind _) = _
    rw [em]
    rfl
  exact ⟨n3, _, er, fun m hm => by simpa using q3 m (k2 m (l2 m hm)), by omega⟩
end K12

set_option Elab.async false
set_option linter.all false
set_option maxRecDepth 100000
set_option maxHeartbeats 400000
namespace K12
open PySem PySem.Spec PyProof.Rows L2 NE He Evl Fr
/-- the seven bodies, as lists -/
def uBodies : List (List D) := (["X", "Y", "a"] : List PySem.Str).flatMap fun part => [1, 2, 3].map fun n => [tup' ["way", "X", "Y"], tup' ["p", part], tup' ["way", "Y", "X"]].take n
def uRows : List D := uN.flatMap fun u => uN.map fun v => tup' [u, v]
theorem names_all : (uBodies.all fun b => uDicts.all fun m => !(hasK "X" m && hasK "Y" m) || answers (phi_match_names [.fz (.lst b), .fz m]) (among uRows)) = true := by decide +kernel
theorem names_at {b : List D} {m : D} (hb : b ∈ uBodies) (hm : GoodV b m) : ∃ d t, phi_match_names [.fz (.lst b), .fz m] = Option.some (d, t) ∧ d ∈ uRows := by
  have hw : (uBodies.all fun b => b.any fun p => hasV "X" p && hasV "Y" p) = true := by decide +kernel
  obtain ⟨p, hp, v⟩ := List.any_eq_true.mp (List.all_eq_true.mp hw b hb)
  obtain ⟨vx, vy⟩ := Bool.and_eq_true_iff.mp v
  have z := List.all_eq_true.mp (List.all_eq_true.mp names_all b hb) m hm.1
  rw [hm.2.1 p hp vx, hm.2.2 p hp vy] at z
  obtain ⟨d, t, e, y⟩ := answers_some (by simpa using z)
  exact ⟨d, t, e, among_mem y⟩
end K12

set_option Elab.async false
set_option linter.all false
set_option maxRecDepth 100000
set_option maxHeartbeats 400000
namespace K12
open PySem PySem.Spec PyProof.Rows L2 NE He Evl Fr
/-! stores as lists of texts: as_facts, check_store -/
def uFS : List (List PySem.Str) := (uN.flatMap fun u => uN.map fun v => ([("way" : PySem.Str), u, v] : List PySem.Str)) ++ uN.map fun u => ([("p" : PySem.Str), u] : List PySem.Str)
theorem uFS_mem {xs : List PySem.Str} (h : xs ∈ uFS) : tup' xs ∈ uFacts := by
  have z : (uFS.all fun xs => among uFacts (tup' xs)) = true := by decide +kernel
  exact among_mem (List.all_eq_true.mp z xs h)
def stD (L : List (List PySem.Str)) : D := .lst (L.map tup')
def inrs (xs : List PySem.Str) : List Key := xs.map .inr
def fcD (L : List (List PySem.Str)) : D := .dt (L.map inrs) (L.map fun _ => .bl true)
theorem keysOf_strs : ∀ xs : List PySem.Str, keysOf (xs.map D.str) = some (inrs xs)
  | [] => rfl
  | x :: xs => by
    rw [List.map_cons]
    unfold keysOf
    rw [keysOf_strs xs]
    rfl
theorem inrs_inj {xs ys : List PySem.Str} (h : inrs xs = inrs ys) : xs = ys := (List.map_inj_right fun _ _ => Sum.inr.inj).mp h
theorem inrs_mem {xs : List PySem.Str} {L : List (List PySem.Str)} (h : inrs xs ∈ L.map inrs) : xs ∈ L := by
  obtain ⟨ys, h1, h2⟩ := List.mem_map.mp h
  rw [← inrs_inj h2]
  exact h1
theorem put_fc {xs : List PySem.Str} {L : List (List PySem.Str)} (hn : xs ∉ L) (hl : L.length < 100000) : dPut (fcD L) (tup' xs) (.bl true) = some (fcD (L ++ [xs])) := by
  unfold fcD dPut
  show (keysOf (xs.map D.str)).bind _ = _
  rw [keysOf_strs]
  simp only [Option.bind_some, List.length_map]
  rw [if_pos hl]
  unfold putZ
  rw [if_neg fun z => hn (inrs_mem z)]
  simp
theorem dc_loop (st : D) : ∀ (R pre : List (List PySem.Str)), (pre ++ R).Nodup → (pre ++ R).length < 100000 → dcM (tgN 1) mYes (mVar 1) (mC (.bl true)) [1] (R.map tup') [.fz st, .no] (fcD pre) = some (fcD (pre ++ R), [.fz st, .no])
  | [], pre, _, _ => by rw [List.append_nil]; rfl
  | xs :: R, pre, hn, hl => by
    have h1 : xs ∉ pre := fun z => (List.nodup_append.mp hn).2.2 xs z xs List.mem_cons_self rfl
    rw [List.length_append, List.length_cons] at hl
    have hp := put_fc h1 (by omega)
    have ih := dc_loop st R (pre ++ [xs]) (by simpa using hn) (by simp; omega)
    rw [List.map_cons]
    show (dPut (fcD pre) (tup' xs) (.bl true)).bind (fun c2 => dcM (tgN 1) mYes (mVar 1) (mC (.bl true)) [1] (R.map tup') [.fz st, .no] c2) = _
    rw [hp]
    simp only [Option.bind_some, ih, List.append_assoc, List.singleton_append]
theorem as_facts_at {L : List (List PySem.Str)} (hn : L.Nodup) (hl : L.length < 100000) : ∃ t, phi_as_facts [.fz (stD L)] = some (fcD L, t) := by
  have e : mDc true (itL (mVar 0)) (tgN 1) [1] mYes (mVar 1) (mC (.bl true)) [1] [.fz (stD L), .no] = some (fcD L, [.fz (stD L), .no]) := by
    show ((dcM (tgN 1) mYes (mVar 1) (mC (.bl true)) [1] (L.map tup') [.fz (stD L), .no] (fcD [])).map _) = _
    rw [dc_loop (stD L) L [] hn hl]
    rfl
  have e2 : m_as_facts [.fz (stD L), .no] = some (.ret (fcD L), [.fz (stD L), .no]) := by
    unfold m_as_facts
    refine ret_at ?_
    unfold mFrz
    rw [e]
    rfl
  refine ⟨[.fz (stD L)], ?_⟩
  unfold phi_as_facts runDefG
  show ((m_as_facts [.fz (stD L), .no]).bind _) = _
  rw [e2]
  rfl
theorem kDs (xs : List PySem.Str) : (inrs xs).map kD = xs.map D.str := by
  induction xs with
  | nil => rfl
  | cons x xs ih =>
    show D.str x :: (inrs xs).map kD = _
    rw [ih]
    rfl
theorem fc_items (L : List (List PySem.Str)) : (fcD L).itemsL = some (L.map tup') := by
  show some ((L.map inrs).map fun l => D.tup (l.map kD)) = _
  rw [List.map_map]
  congr 1
  refine List.map_congr_left fun xs _ => ?_
  show D.tup ((inrs xs).map kD) = _
  rw [kDs]
  rfl
/-! is_store -/
theorem fact_all : (uFacts.all fun f => answers (phi_is_fact [.fz f]) fun d => sameD d (.bl true)) = true := by decide +kernel
theorem fact_at {f : D} (h : f ∈ uFacts) : ∃ t, phi_is_fact [.fz f] = some (.bl true, t) := by
  obtain ⟨d, t, e, z⟩ := answers_some (List.all_eq_true.mp fact_all f h)
  exact ⟨t, by rw [e, sameD_eq z]⟩
theorem tkeys_of : ∀ L : List (List PySem.Str), tkeysOf (L.map tup') = some (L.map inrs)
  | [] => rfl
  | xs :: L => by
    rw [List.map_cons]
    unfold tkeysOf
    rw [tkeys_of L]
    show ((keysOf (xs.map D.str)).bind _) = _
    rw [keysOf_strs]
    rfl
theorem nub_len {α : Type} [DecidableEq α] {l : List α} (h : l.Nodup) : (TK.nub l).length = l.length := TK.nodup_len TK.nub_nodup h fun x => TK.mem_nub
theorem set_len {L : List (List PySem.Str)} (hn : L.Nodup) (hl : L.length < 64) : setLen (L.map tup') = some L.length := by
  cases L with
  | nil => rfl
  | cons xs L =>
    have e : setLen ((xs :: L).map tup') = (tkeysOf ((xs :: L).map tup')).bind fun ks => if ks.length < 64 then some (TK.nub ks).length else none := rfl
    rw [e, tkeys_of]
    simp only [Option.bind_some, List.length_map]
    rw [if_pos hl, nub_len (List.pairwise_map.mpr (hn.imp fun h z => h (inrs_inj z))), List.length_map]
theorem store_at {L : List (List PySem.Str)} (hn : L.Nodup) (hl : L.length < 64) (hu : ∀ xs ∈ L, xs ∈ uFS) : ∃ t, phi_is_store [.fz (stD L)] = some (.bl true, t) := by
  have c : mLc (itL (mVar 0)) (tgN 1) [1] (mNot (mT (mCallG 1 phi_is_fact (mGD (mVar 1) mGNil)))) (mVar 1) [1] [.fz (stD L), .no] = some (.lst [], [.fz (stD L), .no]) := by
    refine mLc_no (ds := L.map tup') (s0 := [.fz (stD L), .no]) rfl rfl fun d hd => ?_
    obtain ⟨xs, h1, rfl⟩ := List.mem_map.mp hd
    obtain ⟨t, e⟩ := fact_at (uFS_mem (hu xs h1))
    have k : mCallG 1 phi_is_fact (mGD (mVar 1) mGNil) [.fz (stD L), .fz (tup' xs)] = some (.bl true, [.fz (stD L), .fz (tup' xs)]) := call_data (np := 1) (ds := [tup' xs]) (gd_data (ds := []) (var_at rfl) gn_data) rfl e
    exact ⟨[.fz (stD L), .fz (tup' xs)], [.fz (stD L), .fz (tup' xs)], rfl, not_at (t_at k rfl), rfl⟩
  have c2 : mOp dEqW (mLenSet (mVar 0)) (mCB dLen (mCons (mVar 0) mNil)) [.fz (stD L), .no] = some (.bl true, [.fz (stD L), .no]) := by
    refine op_at (x := .int L.length) (y := .int L.length) ?_ ?_ ?_
    · show ((setLen (L.map tup')).map _) = _
      rw [set_len hn hl]
      rfl
    · show some (D.int ((L.map tup').length : Nat), _) = _
      rw [List.length_map]
    · unfold dEqW
      rw [eqW_self rfl]
      rfl
  have e2 : m_is_store [.fz (stD L), .no] = some (.ret (.bl true), [.fz (stD L), .no]) := by
    unfold m_is_store
    have t1 : mOr (mNot (mT (mIsT "list" (mVar 0)))) (mT (mOp dNeW (mLc (itL (mVar 0)) (tgN 1) [1] (mNot (mT (mCallG 1 phi_is_fact (mGD (mVar 1) mGNil)))) (mVar 1) [1]) (mLst mNil))) [.fz (stD L), .no] = some (false, [.fz (stD L), .no]) := by
      refine (or_no (s2 := [.fz (stD L), .no]) rfl).trans ?_
      exact t_at (op_at c (y := .lst []) rfl (d := .bl false) rfl) rfl
    rw [seq_at (s2 := [.fz (stD L), .no]) (by rw [if_at t1]; rfl)]
    exact ret_at c2
  refine ⟨[.fz (stD L)], ?_⟩
  unfold phi_is_store runDefG
  show ((m_is_store [.fz (stD L), .no]).bind _) = _
  rw [e2]
  rfl
theorem check_store_at {L : List (List PySem.Str)} (hn : L.Nodup) (hl : L.length < 64) (hu : ∀ xs ∈ L, xs ∈ uFS) : ∃ t, phi_check_store [.fz (stD L)] = some (.non, t) := by
  obtain ⟨t, e⟩ := store_at hn hl hu
  have k : mCallG 1 phi_is_store (mGD (mVar 0) mGNil) [.fz (stD L)] = some (.bl true, [.fz (stD L)]) := call_data (np := 1) (ds := [stD L]) (gd_data (ds := []) (var_at rfl) gn_data) rfl e
  have e2 : m_check_store [.fz (stD L)] = some (.nx, [.fz (stD L)]) := by
    unfold m_check_store
    rw [if_at (not_at (t_at k rfl))]
    rfl
  refine ⟨[.fz (stD L)], ?_⟩
  unfold phi_check_store runDefG
  show ((m_check_store [.fz (stD L)]).bind _) = _
  rw [e2]
  rfl
theorem check_fact_at {f : D} (h : f ∈ uFacts) : ∃ t, phi_check_fact [.fz f] = some (.non, t) := by
  have z : (uFacts.all fun f => answers (phi_check_fact [.fz f]) fun d => sameD d .non) = true := by decide +kernel
  obtain ⟨d, t, e, z⟩ := answers_some (List.all_eq_true.mp z f h)
  exact ⟨t, by rw [e, sameD_eq z]⟩
end K12

set_option Elab.async false
set_option linter.all false
set_option maxRecDepth 100000
set_option maxHeartbeats 400000
namespace K12
open PySem PySem.Spec PyProof.Rows L2 NE He Evl Fr
/-! questions; matches_in, matches, count_matches -/
def uTops : List (List D) := [[], [.str "X"], [.str "X", .str "Y"]]
def uGs : List (List D) := [[], [tup' ["X", "Y"]], [tup' ["X", "a"], tup' ["X", "Y"]]]
def qOf (t b g : List D) : D := .obj "Question" ["row"] [.tup [.tup t, .tup b, .tup g]]
/-- a question of the law -/
structure IsQ (q : D) (b g : List D) : Prop where
  ex : ∃ t ∈ uTops, q = qOf t b g
  hb : b ∈ uBodies
  hg : g ∈ uGs
def allQ (p : List D → List D → List D → Bool) : Bool := uTops.all fun t => uBodies.all fun b => uGs.all fun g => p t b g
theorem allQ_at {p : List D → List D → List D → Bool} (h : allQ p = true) {t b g : List D} (ht : t ∈ uTops) (hb : b ∈ uBodies) (hg : g ∈ uGs) : p t b g = true :=
  List.all_eq_true.mp (List.all_eq_true.mp (List.all_eq_true.mp h t ht) b hb) g hg
section
variable {q : D} {b g : List D} (Q : IsQ q b g)
include Q
theorem q_told : ∃ z, phi_Question_told [.fz q] = some (.lst b, z) := by
  have z : allQ (fun t b g => answers (phi_Question_told [.fz (qOf t b g)]) fun d => sameD d (.lst b)) = true := by decide +kernel
  obtain ⟨t, ht, rfl⟩ := Q.ex
  obtain ⟨d, s, e, y⟩ := answers_some (allQ_at z ht Q.hb Q.hg)
  exact ⟨s, by rw [e, sameD_eq y]⟩
theorem q_pairs : ∃ z, phi_Question_pairs [.fz q] = some (.lst g, z) := by
  have z : allQ (fun t b g => answers (phi_Question_pairs [.fz (qOf t b g)]) fun d => sameD d (.lst g)) = true := by decide +kernel
  obtain ⟨t, ht, rfl⟩ := Q.ex
  obtain ⟨d, s, e, y⟩ := answers_some (allQ_at z ht Q.hb Q.hg)
  exact ⟨s, by rw [e, sameD_eq y]⟩
theorem q_check : ∃ z, phi_check_question [.fz q] = some (.non, z) := by
  have z : allQ (fun t b g => answers (phi_check_question [.fz (qOf t b g)]) fun d => sameD d .non) = true := by decide +kernel
  obtain ⟨t, ht, rfl⟩ := Q.ex
  obtain ⟨d, s, e, y⟩ := answers_some (allQ_at z ht Q.hb Q.hg)
  exact ⟨s, by rw [e, sameD_eq y]⟩
theorem q_vars : ∃ xs z, phi_variables [.fz q] = some (.lst xs, z) ∧ (D.lst xs).shp = true := by
  have z : allQ (fun t b g => answers (phi_variables [.fz (qOf t b g)]) fun d => match d with
    | .lst xs => (D.lst xs).shp
    | _ => false) = true := by decide +kernel
  obtain ⟨t, ht, rfl⟩ := Q.ex
  obtain ⟨d, s, e, y⟩ := answers_some (allQ_at z ht Q.hb Q.hg)
  cases d <;> first | (cases y; done) | exact ⟨_, s, e, y⟩
theorem q_isq : q.isObj "Question" = true := by
  obtain ⟨t, ht, rfl⟩ := Q.ex
  rfl
theorem q_notr : q.isObj "Rule" = false := by
  obtain ⟨t, ht, rfl⟩ := Q.ex
  rfl
abbrev mTold (i : Nat) : M := mOrE (mProp "Rule" phi_Rule_told (mVar i)) (mProp "Question" phi_Question_told (mVar i))
abbrev mPairs (i : Nat) : M := mOrE (mProp "Rule" phi_Rule_pairs (mVar i)) (mProp "Question" phi_Question_pairs (mVar i))
theorem told_at {s : S} {i : Nat} (h : s[i]? = some (.fz q)) : mTold i s = some (.lst b, s) := by
  obtain ⟨z, e⟩ := q_told Q
  exact (orE_at (prop_no h (q_notr Q))).trans (prop_at h (q_isq Q) e)
theorem pairs_at {s : S} {i : Nat} (h : s[i]? = some (.fz q)) : mPairs i s = some (.lst g, s) := by
  obtain ⟨z, e⟩ := q_pairs Q
  exact (orE_at (prop_no h (q_notr Q))).trans (prop_at h (q_isq Q) e)
theorem checkQ_at {s : S} {i : Nat} (h : s[i]? = some (.fz q)) : mDrop (mCallG 1 phi_check_question (mGD (mVar i) mGNil)) s = some (.nx, s) := by
  obtain ⟨z, e⟩ := q_check Q
  exact drop_at (call_data (np := 1) (ds := [q]) (gd_data (ds := []) (var_at h) gn_data) rfl e)
theorem gap_mem : D.lst g ∈ uGaps2 := by
  have z : (uGs.all fun g => among uGaps2 (.lst g)) = true := by decide +kernel
  exact among_mem (List.all_eq_true.mp z g Q.hg)
theorem body_mem : ∀ p ∈ b, p ∈ uPats := by
  have z : (uBodies.all fun b => b.all fun p => among uPats p) = true := by decide +kernel
  exact fun p hp => among_mem (List.all_eq_true.mp (List.all_eq_true.mp z b Q.hb) p hp)
theorem body_len : b.length ≤ 3 := by
  have z : (uBodies.all fun b => decide (b.length ≤ 3)) = true := by decide +kernel
  exact of_decide_eq_true (List.all_eq_true.mp z b Q.hb)
end
/-- a store of the law -/
structure IsSt (L : List (List PySem.Str)) : Prop where
  nd : L.Nodup
  le : L.length ≤ 12
  mem : ∀ xs ∈ L, xs ∈ uFS
section
variable {q : D} {b g : List D} {L : List (List PySem.Str)} (Q : IsQ q b g) (T : IsSt L)
include T
theorem checkS_at {s : S} {i : Nat} (h : s[i]? = some (.fz (stD L))) : mDrop (mCallG 1 phi_check_store (mGD (mVar i) mGNil)) s = some (.nx, s) := by
  obtain ⟨z, e⟩ := check_store_at T.nd (Nat.lt_of_le_of_lt T.le (by decide)) T.mem
  exact drop_at (call_data (np := 1) (ds := [stD L]) (gd_data (ds := []) (var_at h) gn_data) rfl e)
theorem facts_at {s : S} {i : Nat} (h : s[i]? = some (.fz (stD L))) : mCallG 1 phi_as_facts (mGD (mVar i) mGNil) s = some (fcD L, s) := by
  obtain ⟨z, e⟩ := as_facts_at T.nd (Nat.lt_of_le_of_lt T.le (by decide))
  exact call_data (np := 1) (ds := [stD L]) (gd_data (ds := []) (var_at h) gn_data) rfl e
theorem st_facts : ∀ f ∈ L.map tup', f ∈ uFacts := fun f hf => by
  obtain ⟨xs, h1, rfl⟩ := List.mem_map.mp hf
  exact uFS_mem (T.mem xs h1)
/-- matches of told patterns in a store -/
theorem mof_at {ps : List D} {pairs : D} (hp : ∀ p ∈ ps, p ∈ uPats) (hl : ps.length ≤ 3) (hg : pairs ∈ uGaps2) : ∃ ns t, phi_matches_of [.fz (.lst ps), .fz pairs, .fz (.lst []), .fz (fcD L)] = some (.lst ns, t) ∧ (∀ m ∈ ns, GoodV ps m) ∧ ns.length ≤ 1728 := by
  have h12 : 12 ^ ps.length ≤ 12 ^ 3 := Nat.pow_le_pow_right (by decide) hl
  obtain ⟨ns, t, e, h1, h2⟩ := matches_of_at (fc_items L) (st_facts T) (by rw [List.length_map]; exact T.le) hp hg (by omega)
  exact ⟨ns, t, e, h1, by omega⟩
include Q
theorem in_at : ∃ ns t, phi_matches_in [.fz q, .fz (fcD L)] = some (.lst ns, t) ∧ (∀ m ∈ ns, GoodV b m) ∧ ns.length ≤ 1728 := by
  obtain ⟨ns, t, e, h1, h2⟩ := mof_at T (body_mem Q) (body_len Q) (gap_mem Q)
  refine ⟨ns, [.fz q, .fz (fcD L)], ?_, h1, h2⟩
  have ei : mIf (mT (mIsO "Question" (mVar 0))) (mLst mNil) (mProp "Rule" phi_Rule_denied (mVar 0)) [.fz q, .fz (fcD L)] = some (.lst [], [.fz q, .fz (fcD L)]) := by
    have k : mIsO "Question" (mVar 0) [.fz q, .fz (fcD L)] = some (.bl true, [.fz q, .fz (fcD L)]) := by
      show (if q.isObj "Question" = true then _ else _) = _
      rw [if_pos (q_isq Q)]
    unfold mIf
    rw [t_at k rfl]
    rfl
  have em : m_matches_in [.fz q, .fz (fcD L)] = some (.ret (.lst ns), [.fz q, .fz (fcD L)]) := by
    unfold m_matches_in
    refine ret_at ?_
    exact call_data (np := 4) (ds := [.lst b, .lst g, .lst [], fcD L]) (gd_data (ds := [.lst g, .lst [], fcD L]) (told_at Q rfl) (gd_data (ds := [.lst [], fcD L]) (pairs_at Q rfl) (gd_data (ds := [fcD L]) ei (gd_data (ds := []) (var_at rfl) gn_data)))) rfl e
  unfold phi_matches_in runDefG
  show ((m_matches_in [.fz q, .fz (fcD L)]).bind _) = _
  rw [em]
  rfl
theorem minC_at {s : S} {i j : Nat} (h : s[i]? = some (.fz q)) (hj : s[j]? = some (.fz (stD L))) : ∃ ns, mCallG 2 phi_matches_in (mGD (mVar i) (mGD (mCallG 1 phi_as_facts (mGD (mVar j) mGNil)) mGNil)) s = some (.lst ns, s) ∧ (∀ m ∈ ns, GoodV b m) ∧ ns.length ≤ 1728 := by
  obtain ⟨ns, t, e, h1, h2⟩ := in_at Q T
  exact ⟨ns, call_data (np := 2) (ds := [q, fcD L]) (gd_data (ds := [fcD L]) (var_at h) (gd_data (ds := []) (facts_at T hj) gn_data)) rfl e, h1, h2⟩
end
/-! sorted rows -/
theorem rows_plain : (uRows.all fun d => d.plain && decide (d.py.depth ≤ 8)) = true := by decide +kernel
theorem rows_alike : (uRows.all fun a => uRows.all fun b => PySem.W.alike a.py b.py) = true := by decide +kernel
theorem rows_tup : (uRows.all fun d => match d.py with
  | .tuple (_ :: _) => true
  | _ => false) = true := by decide +kernel
theorem mem_isort {le : D → D → Bool} {z : D} : ∀ {l : List D}, z ∈ isort le l → z ∈ l
  | [], h => h
  | x :: r, h => by
    unfold isort at h
    rcases mem_ins h with h | h
    · exact h ▸ List.mem_cons_self
    · exact List.mem_cons_of_mem _ (mem_isort h)
theorem sort_rows {ds : List D} (h : ∀ d ∈ ds, d ∈ uRows) (hl : ds.length ≤ 100000) : ∃ rs, sortD ds = some (.lst rs) ∧ (∀ r ∈ rs, r ∈ uRows) := by
  have hp : plains ds = true := plains_of fun d hd => (Bool.and_eq_true_iff.mp (List.all_eq_true.mp rows_plain d (h d hd))).1
  have hb : sblB (pys ds) = true := by
    unfold sblB
    rw [pys_map, Bool.and_eq_true, Bool.and_eq_true, Bool.and_eq_true, Bool.or_eq_true]
    refine ⟨?_, .inl ?_, ?_, ?_⟩
    · rw [List.all_map, List.all_eq_true]
      intro a ha
      show ((ds.map D.py).all fun b => PySem.W.alike a.py b) = true
      rw [List.all_map, List.all_eq_true]
      exact fun b hb => List.all_eq_true.mp (List.all_eq_true.mp rows_alike a (h a ha)) b (h b hb)
    · rw [List.all_map, List.all_eq_true]
      exact fun a ha => List.all_eq_true.mp rows_tup a (h a ha)
    · rw [List.all_map, List.all_eq_true]
      intro a ha
      have z := of_decide_eq_true (Bool.and_eq_true_iff.mp (List.all_eq_true.mp rows_plain a (h a ha))).2
      exact decide_eq_true (by omega)
    · rw [List.length_map]
      exact decide_eq_true hl
  refine ⟨isort ordD ds, ?_, fun r hr => h r (mem_isort hr)⟩
  unfold sortD
  rw [hp, hb]
  rfl
theorem rows_shp {rs : List D} (h : ∀ r ∈ rs, r ∈ uRows) : (D.lst rs).shp = true :=
  shp_lst (n := 8) (fun d hd => (Bool.and_eq_true_iff.mp (List.all_eq_true.mp rows_plain d (h d hd))).1) (fun d hd => of_decide_eq_true (Bool.and_eq_true_iff.mp (List.all_eq_true.mp rows_plain d (h d hd))).2) (by decide)
section
variable {q : D} {b g : List D} {L : List (List PySem.Str)} (Q : IsQ q b g) (T : IsSt L)
include Q T
theorem matches_at : ∃ rs t, phi_matches [.fz q, .fz (stD L)] = some (.lst rs, t) ∧ (∀ r ∈ rs, r ∈ uRows) := by
  obtain ⟨ns, e1, h1, h2⟩ := minC_at Q T (s := [.fz q, .fz (stD L), .no]) (i := 0) (j := 1) rfl rfl
  obtain ⟨xs, c1, c2, c3⟩ := mLc_all (Good := fun d => d ∈ uRows) (it := itL (mCallG 2 phi_matches_in (mGD (mVar 0) (mGD (mCallG 1 phi_as_facts (mGD (mVar 1) mGNil)) mGNil)))) (tg := tgN 2) (js := [2]) (t := mYes) (e := mCallG 2 phi_match_names (mGD (mTold 0) (mGD (mVar 2) mGNil))) (vs := [2]) (itL_at e1 rfl) rfl (fun m hm => by
    obtain ⟨d, t, k, kd⟩ := names_at Q.hb (h1 m hm)
    refine ⟨[.fz q, .fz (stD L), .fz m], true, [.fz q, .fz (stD L), .fz m], rfl, rfl, fun _ => ⟨d, [.fz q, .fz (stD L), .fz m], ?_, kd, rfl⟩, fun z => nomatch z⟩
    exact call_data (np := 2) (ds := [.lst b, m]) (gd_data (ds := [m]) (told_at Q rfl) (gd_data (ds := []) (var_at rfl) gn_data)) rfl k) (by omega)
  obtain ⟨rs, k1, k2⟩ := sort_rows c2 (by omega)
  refine ⟨rs, [.fz q, .fz (stD L)], ?_, k2⟩
  have em : m_matches [.fz q, .fz (stD L), .no] = some (.ret (.lst rs), [.fz q, .fz (stD L), .no]) := by
    unfold m_matches
    rw [seq_at (checkQ_at Q rfl), seq_at (checkS_at T rfl)]
    refine ret_at ?_
    unfold mSorted
    rw [c1]
    show ((sortD xs).map _) = _
    rw [k1]
    rfl
  unfold phi_matches runDefG
  show ((m_matches [.fz q, .fz (stD L), .no]).bind _) = _
  rw [em]
  rfl
theorem count_at : ∃ n t, phi_count_matches [.fz q, .fz (stD L)] = some (.int n, t) := by
  obtain ⟨rs, t, e, h⟩ := matches_at Q T
  have k : mCallG 2 phi_matches (mGD (mVar 0) (mGD (mVar 1) mGNil)) [.fz q, .fz (stD L)] = some (.lst rs, [.fz q, .fz (stD L)]) := call_data (np := 2) (ds := [q, stD L]) (gd_data (ds := [stD L]) (var_at rfl) (gd_data (ds := []) (var_at rfl) gn_data)) rfl e
  have em : m_count_matches [.fz q, .fz (stD L)] = some (.ret (.int rs.length), [.fz q, .fz (stD L)]) := by
    unfold m_count_matches
    refine ret_at ?_
    unfold mCB mCons
    rw [k]
    rfl
  refine ⟨rs.length, [.fz q, .fz (stD L)], ?_⟩
  unfold phi_count_matches runDefG
  show ((m_count_matches [.fz q, .fz (stD L)]).bind _) = _
  rw [em]
  rfl
end
end K12

set_option Elab.async false
set_option linter.all false
set_option maxRecDepth 100000
set_option maxHeartbeats 400000
namespace Fr
open PySem PySem.Spec PyProof.Rows L2 NE He Evl
theorem eqW_some {a b : D} (ha : a.shp = true) (hb : b.shp = true) : ∃ r, eqW a b = some r := by
  unfold eqW
  rw [ha, hb]
  exact ⟨_, rfl⟩
theorem and_at {a b : MT} {s : S} {c d : Bool} (ha : a s = some (c, s)) (hb : b s = some (d, s)) : ∃ e, mAnd a b s = some (e, s) := by
  unfold mAnd
  rw [ha]
  simp only [Option.bind_some]
  cases c
  · exact ⟨false, rfl⟩
  · exact ⟨d, hb⟩
theorem sl_at {a : M} {lo hi : MO} {s : S} {d r : D} {l h : Option Int} (ha : a s = some (d, s)) (hl : lo s = some (l, s)) (hh : hi s = some (h, s)) (e : dSl d l h = some r) : mSl a lo hi s = some (r, s) := by
  unfold mSl
  rw [ha]
  simp only [Option.bind_some, hl, hh, e, Option.map_some]
theorem cb_at {f : List D → Option D} {a : MA} {s : S} {ds : List D} {d : D} (ha : a s = some (ds, s)) (h : f ds = some d) : mCB f a s = some (d, s) := by
  unfold mCB
  rw [ha]
  simp only [Option.bind_some, h, Option.map_some]
theorem cons_at {a : M} {r : MA} {s : S} {d : D} {ds : List D} (ha : a s = some (d, s)) (hr : r s = some (ds, s)) : mCons a r s = some (d :: ds, s) := by
  unfold mCons
  rw [ha]
  simp only [Option.bind_some, hr]
end Fr
namespace K12
open PySem PySem.Spec PyProof.Rows L2 NE He Evl Fr
/-! steps_of -/
def seqs : Nat → List (List D)
  | 0 => [[]]
  | n + 1 => [] :: uPats.flatMap fun p => (seqs n).map (p :: ·)
theorem seqs_mem : ∀ {n : Nat} {l : List D}, l.length ≤ n → (∀ x ∈ l, x ∈ uPats) → l ∈ seqs n
  | 0, l, h, _ => by
    cases l with
    | nil => exact List.mem_cons_self
    | cons x l => simp at h
  | n + 1, [], _, _ => List.mem_cons_self
  | n + 1, x :: l, h, hx => List.mem_cons_of_mem _ (List.mem_flatMap.mpr ⟨x, hx x List.mem_cons_self, List.mem_map.mpr ⟨l, seqs_mem (by simpa using h) (fun y hy => hx y (List.mem_cons_of_mem _ hy)), rfl⟩⟩)
def uVars : List D := [.lst [], .lst [.str "X"], .lst [.str "Y"], .lst [.str "X", .str "Y"], .lst [.str "Y", .str "X"]]
theorem vars_all : ((seqs 3).all fun l => answers (phi_variables_of [.fz (.lst l)]) (among uVars)) = true := by decide +kernel
theorem vars_at {l : List D} (h : l.length ≤ 3) (hx : ∀ x ∈ l, x ∈ uPats) : ∃ d t, phi_variables_of [.fz (.lst l)] = some (d, t) ∧ d ∈ uVars := by
  obtain ⟨d, t, e, z⟩ := answers_some (List.all_eq_true.mp vars_all l (seqs_mem h hx))
  exact ⟨d, t, e, among_mem z⟩
def uParts : List D := [.str "X", .str "Y", .str "a"]
theorem isvar_at {d : D} (h : d ∈ uParts) : ∃ b t, phi_is_variable [.fz d] = some (.bl b, t) := by
  have z : (uParts.all fun d => answers (phi_is_variable [.fz d]) isBl) = true := by decide +kernel
  obtain ⟨d, t, e, y⟩ := answers_some (List.all_eq_true.mp z d h)
  cases d <;> first | (cases y; done) | exact ⟨_, t, e⟩
theorem niW_at {d x : D} (h : d ∈ uParts) (hx : x ∈ uVars) : ∃ b, dNiW d x = some (.bl b) := by
  have z : (uParts.all fun d => uVars.all fun x => (inW d x).isSome) = true := by decide +kernel
  obtain ⟨b, e⟩ := Option.isSome_iff_exists.mp (List.all_eq_true.mp (List.all_eq_true.mp z d h) x hx)
  exact ⟨!b, by unfold dNiW; rw [e]; rfl⟩
theorem parts_shp {xs : List D} (h : ∀ x ∈ xs, x ∈ uParts) : (D.lst xs).shp = true := by
  have z : (uParts.all fun d => d.plain && decide (d.py.depth ≤ 8)) = true := by decide +kernel
  exact shp_lst (n := 8) (fun d hd => (Bool.and_eq_true_iff.mp (List.all_eq_true.mp z d (h d hd))).1) (fun d hd => of_decide_eq_true (Bool.and_eq_true_iff.mp (List.all_eq_true.mp z d (h d hd))).2) (by decide)
def uPairs : List D := [tup' ["X", "Y"], tup' ["X", "a"]]
theorem pair_items {p : D} (h : p ∈ uPairs) : ∃ ds, p.itemsL = some ds ∧ (∀ d ∈ ds, d ∈ uParts) ∧ ds.length ≤ 2 := by
  have z : (uPairs.all fun p => match p.itemsL with
    | some ds => ds.all (among uParts) && decide (ds.length ≤ 2)
    | none => false) = true := by decide +kernel
  have y := List.all_eq_true.mp z p h
  cases e : p.itemsL with
  | none => simp [e] at y
  | some ds =>
    simp only [e, Bool.and_eq_true] at y
    exact ⟨ds, rfl, fun d hd => among_mem (List.all_eq_true.mp y.1 d hd), of_decide_eq_true y.2⟩
theorem gap_pairs {g : List D} (h : g ∈ uGs) : ∀ p ∈ g, p ∈ uPairs := by
  have z : (uGs.all fun g => g.all (among uPairs)) = true := by decide +kernel
  exact fun p hp => among_mem (List.all_eq_true.mp (List.all_eq_true.mp z g h) p hp)
theorem sub_gaps {g xs : List D} (h : g ∈ uGs) (hs : xs.Sublist g) : D.lst xs ∈ uGaps2 := by
  unfold uGs at h
  have a1 : D.lst [] ∈ uGaps2 := among_mem (by decide +kernel)
  have a2 : D.lst [tup' ["X", "Y"]] ∈ uGaps2 := among_mem (by decide +kernel)
  have a3 : D.lst [tup' ["X", "a"]] ∈ uGaps2 := among_mem (by decide +kernel)
  have a4 : D.lst [tup' ["X", "a"], tup' ["X", "Y"]] ∈ uGaps2 := among_mem (by decide +kernel)
  rcases List.mem_cons.mp h with rfl | h
  · rw [List.sublist_nil.mp hs]; exact a1
  rcases List.mem_cons.mp h with rfl | h
  · rcases List.sublist_cons_iff.mp hs with z | ⟨r, rfl, z⟩
    · rw [List.sublist_nil.mp z]; exact a1
    · rw [List.sublist_nil.mp z]; exact a2
  rcases List.mem_cons.mp h with rfl | h
  · rcases List.sublist_cons_iff.mp hs with z | ⟨r, rfl, z⟩
    · rcases List.sublist_cons_iff.mp z with y | ⟨r2, rfl, y⟩
      · rw [List.sublist_nil.mp y]; exact a1
      · rw [List.sublist_nil.mp y]; exact a2
    · rcases List.sublist_cons_iff.mp z with y | ⟨r2, rfl, y⟩
      · rw [List.sublist_nil.mp y]; exact a3
      · rw [List.sublist_nil.mp y]; exact a4
  · cases h
/-- the slots of steps_of between two turns -/
def sSt (told pairs facts : D) (ns : List D) (x4 x5 x6 x7 x8 : Sl) : S := [.fz told, .fz pairs, .fz facts, .ow (.lst ns), x4, x5, x6, x7, x8]
abbrev mIn8 : M := mLc (itL (mVar 7)) (tgN 8) [8] (mAnd (mT (mCallG 1 phi_is_variable (mGD (mVar 8) mGNil))) (mT (mOp dNiW (mVar 8) (mVar 5)))) (mVar 8) [8]
abbrev mNear : M := mLc (itL (mVar 1)) (tgN 7) [7] (mT (mOp dEqW mIn8 (mLst mNil))) (mVar 7) [7]
theorem in8_at {told pairs facts vars pair : D} {ns : List D} {x4 x6 x8 : Sl} (h8 : freeS x8) (hp : pair ∈ uPairs) (hv : vars ∈ uVars) :
    ∃ xs, mIn8 (sSt told pairs facts ns x4 (.fz vars) x6 (.fz pair) x8) = some (.lst xs, sSt told pairs facts ns x4 (.fz vars) x6 (.fz pair) x8) ∧ ∀ x ∈ xs, x ∈ uParts := by
  obtain ⟨ds, h1, h2, h3⟩ := pair_items hp
  have hno : (noOwn (sSt told pairs facts ns x4 (.fz vars) x6 (.fz pair) x8) [8] && [8].all fun j => [8].contains j) = true := by
    cases x8 <;> first | rfl | exact h8.elim
  obtain ⟨xs, r1, r2, r3⟩ := mLc_all (Good := fun d => d ∈ uParts) (tg := tgN 8) (t := mAnd (mT (mCallG 1 phi_is_variable (mGD (mVar 8) mGNil))) (mT (mOp dNiW (mVar 8) (mVar 5)))) (e := mVar 8) (itL_at (s := sSt told pairs facts ns x4 (.fz vars) x6 (.fz pair) x8) (a := mVar 7) (var_at rfl) h1) hno (fun d hd => by
    obtain ⟨b1, t1, k1⟩ := isvar_at (h2 d hd)
    obtain ⟨b2, k2⟩ := niW_at (h2 d hd) hv
    have c1 : mCallG 1 phi_is_variable (mGD (mVar 8) mGNil) (sSt told pairs facts ns x4 (.fz vars) x6 (.fz pair) (.fz d)) = some (.bl b1, sSt told pairs facts ns x4 (.fz vars) x6 (.fz pair) (.fz d)) := call_data (np := 1) (ds := [d]) (gd_data (ds := []) (var_at rfl) gn_data) rfl k1
    have c2 : mOp dNiW (mVar 8) (mVar 5) (sSt told pairs facts ns x4 (.fz vars) x6 (.fz pair) (.fz d)) = some (.bl b2, sSt told pairs facts ns x4 (.fz vars) x6 (.fz pair) (.fz d)) := op_at (x := d) (y := vars) (var_at rfl) (var_at rfl) k2
    obtain ⟨e, k3⟩ := and_at (t_at c1 rfl) (t_at c2 rfl)
    exact ⟨sSt told pairs facts ns x4 (.fz vars) x6 (.fz pair) (.fz d), e, sSt told pairs facts ns x4 (.fz vars) x6 (.fz pair) (.fz d), tg_at rfl, k3, fun _ => ⟨d, _, var_at rfl, h2 d hd, rfl⟩, fun _ => rfl⟩) (by omega)
  exact ⟨xs, r1, r2⟩
theorem near_at {told facts vars : D} {g ns : List D} {x4 x6 x7 x8 : Sl} (h7 : freeS x7) (h8 : freeS x8) (hg : g ∈ uGs) (hv : vars ∈ uVars) :
    ∃ xs, mNear (sSt told (.lst g) facts ns x4 (.fz vars) x6 x7 x8) = some (.lst xs, sSt told (.lst g) facts ns x4 (.fz vars) x6 x7 x8) ∧ D.lst xs ∈ uGaps2 := by
  have hno : (noOwn (sSt told (.lst g) facts ns x4 (.fz vars) x6 x7 x8) [7] && [7].all fun j => [7].contains j) = true := by
    cases x7 <;> first | rfl | exact h7.elim
  have hgl : g.length ≤ 2 := by
    have z : (uGs.all fun g => decide (g.length ≤ 2)) = true := by decide +kernel
    exact of_decide_eq_true (List.all_eq_true.mp z g hg)
  obtain ⟨xs, r1, r2⟩ := mLc_sub (tg := tgN 7) (t := mT (mOp dEqW mIn8 (mLst mNil))) (e := mVar 7) (itL_at (s := sSt told (.lst g) facts ns x4 (.fz vars) x6 x7 x8) (a := mVar 1) (d := .lst g) (var_at rfl) rfl) hno (fun p hp => by
    obtain ⟨ys, k1, k2⟩ := in8_at (told := told) (pairs := .lst g) (facts := facts) (ns := ns) (x4 := x4) (x6 := x6) h8 (gap_pairs hg p hp) hv
    obtain ⟨b, k3⟩ := eqW_some (parts_shp k2) (show (D.lst []).shp = true from rfl)
    have c1 : mOp dEqW mIn8 (mLst mNil) (sSt told (.lst g) facts ns x4 (.fz vars) x6 (.fz p) x8) = some (.bl b, sSt told (.lst g) facts ns x4 (.fz vars) x6 (.fz p) x8) := op_at k1 (y := .lst []) rfl (by unfold dEqW; rw [k3]; rfl)
    exact ⟨sSt told (.lst g) facts ns x4 (.fz vars) x6 (.fz p) x8, b, sSt told (.lst g) facts ns x4 (.fz vars) x6 (.fz p) x8, tg_at rfl, t_at c1 rfl, fun _ => ⟨_, var_at rfl, rfl⟩, fun _ => rfl⟩) (by omega)
  exact ⟨xs, r1, sub_gaps hg r2⟩
def isI (d : D) : Prop := ∃ i : Int, d = .int i
abbrev mCut : M := mSl (mVar 0) mNo (mPart (mVar 4))
theorem cut_sub {α : Type} {xs : List α} {lo hi : Option Int} : ∀ x ∈ Fr.cutD xs lo hi, x ∈ xs := fun x h => List.mem_of_mem_drop (List.mem_of_mem_take h)
theorem cut_len {α : Type} {xs : List α} {lo hi : Option Int} : (Fr.cutD xs lo hi).length ≤ xs.length := by
  unfold Fr.cutD
  rw [List.length_take, List.length_drop]
  omega
abbrev bSt : MS := mSeq (mSet 5 (mCallG 1 phi_variables_of (mGD mCut mGNil))) (mSeq (mSet 6 mNear) (mApp 3 (mCB dLen (mCons (mCallG 4 phi_matches_of (mGD mCut (mGD (mVar 6) (mGD (mLst mNil) (mGD (mVar 2) mGNil))))) mNil))))
section
variable {L : List (List PySem.Str)} (T : IsSt L)
include T
theorem st_step {ps g ns : List D} {i : Int} {x4 x5 x6 x7 x8 : Sl} (h4 : freeS x4) (h5 : freeS x5) (h6 : freeS x6) (h7 : freeS x7) (h8 : freeS x8) (hp : ∀ p ∈ ps, p ∈ uPats) (hl : ps.length ≤ 3) (hg : g ∈ uGs) (hn : ns.length < 1000) :
    ∃ y5 y6 n, (tgN 4 (.int i) (sSt (.lst ps) (.lst g) (fcD L) ns x4 x5 x6 x7 x8)).bind bSt = some (.nx, sSt (.lst ps) (.lst g) (fcD L) (ns ++ [.int n]) (.fz (.int i)) y5 y6 x7 x8) ∧ freeS y5 ∧ freeS y6 := by
  rw [tg_at (free_ok (x := x4) rfl h4)]
  have hc : ∀ a b : Sl, mCut (sSt (.lst ps) (.lst g) (fcD L) ns (.fz (.int i)) a b x7 x8) = some (.lst (Fr.cutD ps none (some i)), sSt (.lst ps) (.lst g) (fcD L) ns (.fz (.int i)) a b x7 x8) := fun a b => sl_at (d := .lst ps) (var_at rfl) (l := none) rfl (h := some i) rfl rfl
  have cs : ∀ p ∈ Fr.cutD ps none (some i), p ∈ uPats := fun p h => hp p (cut_sub p h)
  have cl : (Fr.cutD ps none (some i)).length ≤ 3 := Nat.le_trans cut_len hl
  obtain ⟨vars, t1, k1, hv⟩ := vars_at cl cs
  have e1 : mSet 5 (mCallG 1 phi_variables_of (mGD mCut mGNil)) (sSt (.lst ps) (.lst g) (fcD L) ns (.fz (.int i)) x5 x6 x7 x8) = some (.nx, sSt (.lst ps) (.lst g) (fcD L) ns (.fz (.int i)) (.fz vars) x6 x7 x8) :=
    set_at (call_data (np := 1) (ds := [.lst (Fr.cutD ps none (some i))]) (gd_data (ds := []) (hc _ _) gn_data) rfl k1) (free_ok (x := x5) rfl h5)
  obtain ⟨xs, k2, hx⟩ := near_at (told := .lst ps) (facts := fcD L) (ns := ns) (x4 := .fz (.int i)) (x6 := x6) h7 h8 hg hv
  have e2 : mSet 6 mNear (sSt (.lst ps) (.lst g) (fcD L) ns (.fz (.int i)) (.fz vars) x6 x7 x8) = some (.nx, sSt (.lst ps) (.lst g) (fcD L) ns (.fz (.int i)) (.fz vars) (.fz (.lst xs)) x7 x8) := set_at k2 (free_ok (x := x6) rfl h6)
  obtain ⟨ms, t3, k3, _, _⟩ := mof_at T cs cl hx
  have c3 : mCallG 4 phi_matches_of (mGD mCut (mGD (mVar 6) (mGD (mLst mNil) (mGD (mVar 2) mGNil)))) (sSt (.lst ps) (.lst g) (fcD L) ns (.fz (.int i)) (.fz vars) (.fz (.lst xs)) x7 x8) = some (.lst ms, sSt (.lst ps) (.lst g) (fcD L) ns (.fz (.int i)) (.fz vars) (.fz (.lst xs)) x7 x8) :=
    call_data (np := 4) (ds := [.lst (Fr.cutD ps none (some i)), .lst xs, .lst [], fcD L]) (gd_data (ds := [.lst xs, .lst [], fcD L]) (hc _ _) (gd_data (ds := [.lst [], fcD L]) (var_at rfl) (gd_data (ds := [fcD L]) rfl (gd_data (ds := []) (var_at rfl) gn_data)))) rfl k3
  have c4 := cb_at (f := dLen) (cons_at c3 (r := mNil) (ds := []) rfl) (d := .int ms.length) rfl
  refine ⟨.fz vars, .fz (.lst xs), ms.length, ?_, trivial, trivial⟩
  show mSeq _ _ (sSt (.lst ps) (.lst g) (fcD L) ns (.fz (.int i)) x5 x6 x7 x8) = _
  rw [seq_at e1, seq_at e2]
  unfold mApp
  show (Option.bind _ _) = _
  rw [c4]
  show (if ns.length < 100000 then _ else _) = _
  rw [if_pos (by omega)]
  rfl
end
end K12

set_option Elab.async false
set_option linter.all false
set_option maxRecDepth 100000
set_option maxHeartbeats 400000
namespace Fr
open PySem PySem.Spec PyProof.Rows L2 NE He Evl
theorem runG_at {m : MS} {n k : Nat} {s p t : S} {d : D} (hk : n - s.length = k) (h : m (s ++ List.replicate k .no) = some (.ret d, p)) (hm : mergeS s p = some t) : runDefG m n s = some (d, t) := by
  unfold runDefG
  rw [hk, h]
  show (mergeS s p).map _ = _
  rw [hm]
  rfl
theorem r2_at {a : MA} {s : S} {i j : Int} (h : a s = some ([.int i, .int j], s)) (hb : -100000 ≤ i ∧ i ≤ 100000 ∧ -100000 ≤ j ∧ j ≤ 100000) : itR2 a s = some (rangeD i (j - i).toNat, s) := by
  unfold itR2
  rw [h]
  simp only [Option.bind_some]
  rw [if_pos hb]
theorem lstRg_at {a : M} {s : S} {n : Nat} (h : a s = some (.int n, s)) (hb : n ≤ 1000) : mLstRg a s = some (.lst (upto n), s) := by
  unfold mLstRg
  rw [h]
  simp only [Option.bind_some]
  rw [if_pos (by omega)]
  rfl
end Fr
namespace K12
open PySem PySem.Spec PyProof.Rows L2 NE He Evl Fr
section
variable {L : List (List PySem.Str)} (T : IsSt L)
include T
theorem steps_at {ps g : List D} (hp : ∀ p ∈ ps, p ∈ uPats) (hl : ps.length ≤ 3) (hg : g ∈ uGs) : ∃ ns t, phi_steps_of [.fz (.lst ps), .fz (.lst g), .fz (fcD L)] = some (.lst ns, t) ∧ (∀ d ∈ ns, isI d) ∧ ns.length ≤ 3 := by
  have e0 : mSetO 3 (mLst mNil) ([.fz (.lst ps), .fz (.lst g), .fz (fcD L)] ++ List.replicate 6 .no) = some (.nx, sSt (.lst ps) (.lst g) (fcD L) [] .no .no .no .no .no) := rfl
  have hr : itR2 (mCons (mC (.int 1)) (mCons (mOp dAdd (mCB dLen (mCons (mVar 0) mNil)) (mC (.int 1))) mNil)) (sSt (.lst ps) (.lst g) (fcD L) [] .no .no .no .no .no) = some (rangeD 1 (((ps.length : Nat) : Int) + 1 - 1).toNat, sSt (.lst ps) (.lst g) (fcD L) [] .no .no .no .no .no) := by
    exact r2_at (cons_at (d := .int 1) rfl (cons_at (d := .int (((ps.length : Nat) : Int) + 1)) rfl rfl)) (by omega)
  obtain ⟨s2, r1, ns, y4, y5, y6, y7, y8, rfl, h4, h5, h6, h7, h8, hi, hn⟩ := loop_at (f := fun d s => (tgN 4 d s).bind bSt) (ds := rangeD 1 (((ps.length : Nat) : Int) + 1 - 1).toNat) (P := fun pre s => ∃ ns y4 y5 y6 y7 y8, s = sSt (.lst ps) (.lst g) (fcD L) ns y4 y5 y6 y7 y8 ∧ freeS y4 ∧ freeS y5 ∧ freeS y6 ∧ freeS y7 ∧ freeS y8 ∧ (∀ d ∈ ns, isI d) ∧ ns.length = pre.length) [] (fun a d b z s ⟨ns, y4, y5, y6, y7, y8, es, h4, h5, h6, h7, h8, hi, hn⟩ => by
    have hd : d ∈ rangeD 1 (((ps.length : Nat) : Int) + 1 - 1).toNat := by
      rw [List.nil_append] at z
      rw [z]
      exact List.mem_append_right _ List.mem_cons_self
    have hlen : a.length ≤ 3 := by
      have q := congrArg List.length z
      rw [List.nil_append, List.length_append] at q
      unfold rangeD at q
      rw [List.length_map, List.length_range] at q
      omega
    unfold rangeD at hd
    obtain ⟨i, _, rfl⟩ := List.mem_map.mp hd
    obtain ⟨z5, z6, n, k, f5, f6⟩ := st_step T (i := 1 + (i : Int)) h4 h5 h6 h7 h8 hp hl hg (ns := ns) (by omega)
    subst es
    refine ⟨.nx, _, k, .inl rfl, ns ++ [.int n], .fz (.int (1 + (i : Int))), z5, z6, y7, y8, rfl, trivial, f5, f6, h7, h8, fun d hd => ?_, by rw [List.length_append, List.length_append, hn]; rfl⟩
    rcases List.mem_append.mp hd with w | w
    · exact hi d w
    · rw [List.mem_singleton.mp w]
      exact ⟨n, rfl⟩) (s := sSt (.lst ps) (.lst g) (fcD L) [] .no .no .no .no .no) ⟨[], .no, .no, .no, .no, .no, rfl, trivial, trivial, trivial, trivial, trivial, fun d z => (nomatch z), rfl⟩
  have hlen : ns.length ≤ 3 := by
    rw [hn, List.nil_append]
    unfold rangeD
    rw [List.length_map, List.length_range]
    omega
  have e1 : mFor (itR2 (mCons (mC (.int 1)) (mCons (mOp dAdd (mCB dLen (mCons (mVar 0) mNil)) (mC (.int 1))) mNil))) (tgN 4) bSt (sSt (.lst ps) (.lst g) (fcD L) [] .no .no .no .no .no) = some (.nx, sSt (.lst ps) (.lst g) (fcD L) ns y4 y5 y6 y7 y8) := by
    unfold mFor
    rw [hr]
    exact r1
  have em : m_steps_of ([.fz (.lst ps), .fz (.lst g), .fz (fcD L)] ++ List.replicate 6 .no) = some (.ret (.lst ns), [.fz (.lst ps), .fz (.lst g), .fz (fcD L), .fz (.lst ns), y4, y5, y6, y7, y8]) := by
    unfold m_steps_of
    rw [seq_at e0, seq_at e1]
    rfl
  refine ⟨ns, [.fz (.lst ps), .fz (.lst g), .fz (fcD L)], ?_, hi, hlen⟩
  exact runG_at (m := m_steps_of) (n := 9) (s := [.fz (.lst ps), .fz (.lst g), .fz (fcD L)]) rfl em rfl
end
theorem ints_of : ∀ {ns : List D}, (∀ d ∈ ns, isI d) → ∃ l, intsOf ns = some l
  | [], _ => ⟨[], rfl⟩
  | d :: ns, h => by
    obtain ⟨i, rfl⟩ := h d List.mem_cons_self
    obtain ⟨l, e⟩ := ints_of fun x hx => h x (List.mem_cons_of_mem _ hx)
    exact ⟨i :: l, by unfold intsOf; rw [e]; rfl⟩
theorem ints_shp {ns : List D} (h : ∀ d ∈ ns, isI d) : (D.lst ns).shp = true :=
  shp_lst (n := 8) (fun d hd => by obtain ⟨i, rfl⟩ := h d hd; rfl) (fun d hd => by obtain ⟨i, rfl⟩ := h d hd; exact of_decide_eq_true rfl) (by decide)
section
variable {q : D} {b g : List D} {L : List (List PySem.Str)} (Q : IsQ q b g) (T : IsSt L)
include Q T
theorem partials_at : ∃ ns t, phi_partials [.fz q, .fz (stD L)] = some (.lst ns, t) ∧ (∀ d ∈ ns, isI d) := by
  obtain ⟨ns, t, e, h, _⟩ := steps_at T (body_mem Q) (body_len Q) Q.hg
  refine ⟨ns, [.fz q, .fz (stD L)], ?_, h⟩
  have em : m_partials [.fz q, .fz (stD L)] = some (.ret (.lst ns), [.fz q, .fz (stD L)]) := by
    unfold m_partials
    rw [seq_at (checkQ_at Q rfl), seq_at (checkS_at T rfl)]
    exact ret_at (call_data (np := 3) (ds := [.lst b, .lst g, fcD L]) (gd_data (ds := [.lst g, fcD L]) (told_at Q rfl) (gd_data (ds := [fcD L]) (pairs_at Q rfl) (gd_data (ds := []) (facts_at T rfl) gn_data))) rfl e)
  unfold phi_partials runDefG
  show ((m_partials [.fz q, .fz (stD L)]).bind _) = _
  rw [em]
  rfl
end
/-! best_order -/
def rowOk (n : Nat) (d : D) : Bool := match d with
  | .lst xs => decide (xs.length = n) && xs.all fun x => match x with
    | .int i => decide (0 ≤ i ∧ i < n)
    | _ => false
  | _ => false
theorem orders_all : ([0, 1, 2, 3].all fun n : Nat => answers (phi_orders_of 8 [.fz (.lst (upto n))]) fun d => match d with
  | .lst rows => rows.all (rowOk n)
  | _ => false) = true := by decide +kernel
theorem orders_at {n : Nat} (h : n ≤ 3) : ∃ rows t, phi_orders_of 8 [.fz (.lst (upto n))] = some (.lst rows, t) ∧ ∀ r ∈ rows, rowOk n r = true := by
  have hm : n ∈ [0, 1, 2, 3] := by
    match n, h with
    | 0, _ => decide
    | 1, _ => decide
    | 2, _ => decide
    | 3, _ => decide
  obtain ⟨d, t, e, z⟩ := answers_some (List.all_eq_true.mp orders_all n hm)
  cases d <;> first | (cases z; done) | exact ⟨_, t, e, fun r hr => List.all_eq_true.mp z r hr⟩
theorem row_is {n : Nat} {d : D} (h : rowOk n d = true) : ∃ xs, d = .lst xs ∧ xs.length = n ∧ ∀ x ∈ xs, ∃ i : Int, x = .int i ∧ 0 ≤ i ∧ i < n := by
  unfold rowOk at h
  split at h
  · rename_i xs
    obtain ⟨h1, h2⟩ := Bool.and_eq_true_iff.mp h
    refine ⟨xs, rfl, of_decide_eq_true h1, fun x hx => ?_⟩
    have z := List.all_eq_true.mp h2 x hx
    split at z
    · rename_i i
      exact ⟨i, rfl, of_decide_eq_true z⟩
    · cases z
  · cases h
theorem ix_at {b : List D} {i : Int} (h0 : 0 ≤ i) (h1 : i < b.length) : ∃ d, dIxW (.lst b) (.int i) = some d ∧ d ∈ b := by
  have e : dIxW (.lst b) (.int i) = atI b i := rfl
  rw [e]
  obtain ⟨k, rfl⟩ := Int.eq_ofNat_of_zero_le h0
  have hk : k < b.length := by omega
  exact ⟨b[k], atI_nat (List.getElem?_eq_getElem hk), List.getElem_mem hk⟩
/-- the slots of best_order between two turns -/
def sBo (q st : D) (b : List D) (x3 x4 : D) (x5 x6 x7 : Sl) : S := [.fz q, .fz st, .fz (.lst b), .fz x3, .fz x4, x5, x6, x7]
abbrev mPick : M := mLc (itL (mVar 5)) (tgN 7) [7] mYes (mOp dIxW (mVar 2) (mVar 7)) [7]
abbrev bBo : MS := mSeq (mSet 6 (mCB dSum (mCons (mCallG 3 phi_steps_of (mGD mPick (mGD (mPairs 0) (mGD (mCallG 1 phi_as_facts (mGD (mVar 1) mGNil)) mGNil)))) mNil))) (mIfS (mOr (mT (mOp dIsN (mVar 4) (mC .non))) (mT (mOp dLt (mVar 6) (mVar 4)))) (mPar 3 4 (mCons (mVar 5) (mCons (mVar 6) mNil))) mSkip)
section
variable {q : D} {b g : List D} {L : List (List PySem.Str)} (Q : IsQ q b g) (T : IsSt L)
include Q T
theorem bo_step {row x3 x4 : D} {x5 x6 x7 : Sl} (h5 : freeS x5) (h6 : freeS x6) (h7 : freeS x7) (hr : rowOk b.length row = true) (h4 : x4 = .non ∨ isI x4) :
    ∃ y3 y4 y6, (tgN 5 row (sBo q (stD L) b x3 x4 x5 x6 x7)).bind bBo = some (.nx, sBo q (stD L) b y3 y4 (.fz row) y6 x7) ∧ freeS y6 ∧ (y3 = x3 ∨ y3 = row) ∧ (y4 = .non ∨ isI y4) := by
  obtain ⟨xs, rfl, hl, hx⟩ := row_is hr
  rw [tg_at (free_ok (x := x5) rfl h5)]
  have hno : (noOwn (sBo q (stD L) b x3 x4 (.fz (.lst xs)) x6 x7) [7] && [7].all fun j => [7].contains j) = true := by
    cases x7 <;> first | rfl | exact h7.elim
  obtain ⟨ps, p1, p2, p3⟩ := mLc_all (Good := fun d => d ∈ b) (tg := tgN 7) (t := mYes) (e := mOp dIxW (mVar 2) (mVar 7)) (itL_at (s := sBo q (stD L) b x3 x4 (.fz (.lst xs)) x6 x7) (a := mVar 5) (d := .lst xs) (var_at rfl) rfl) hno (fun x hx2 => by
    obtain ⟨i, rfl, i0, i1⟩ := hx x hx2
    obtain ⟨d, k, kd⟩ := ix_at i0 i1
    refine ⟨sBo q (stD L) b x3 x4 (.fz (.lst xs)) x6 (.fz (.int i)), true, sBo q (stD L) b x3 x4 (.fz (.lst xs)) x6 (.fz (.int i)), tg_at rfl, rfl, fun _ => ⟨d, _, op_at (x := .lst b) (y := .int i) (var_at rfl) (var_at rfl) k, kd, rfl⟩, fun z => nomatch z⟩) (by have := body_len Q; omega)
  obtain ⟨ns, t, e, hi, _⟩ := steps_at T (fun p hp => body_mem Q p (p2 p hp)) (by have := body_len Q; omega) Q.hg
  obtain ⟨l, el⟩ := ints_of hi
  have c1 : mCallG 3 phi_steps_of (mGD mPick (mGD (mPairs 0) (mGD (mCallG 1 phi_as_facts (mGD (mVar 1) mGNil)) mGNil))) (sBo q (stD L) b x3 x4 (.fz (.lst xs)) x6 x7) = some (.lst ns, sBo q (stD L) b x3 x4 (.fz (.lst xs)) x6 x7) :=
    call_data (np := 3) (ds := [.lst ps, .lst g, fcD L]) (gd_data (ds := [.lst g, fcD L]) p1 (gd_data (ds := [fcD L]) (pairs_at Q rfl) (gd_data (ds := []) (facts_at T rfl) gn_data))) rfl e
  have c2 := cb_at (f := dSum) (cons_at c1 (r := mNil) (ds := []) rfl) (d := .int l.sum) (by show (intsOf ns).map _ = _; rw [el]; rfl)
  have e1 := set_at (i := 6) c2 (free_ok (x := x6) rfl h6)
  show ∃ y3 y4 y6, mSeq _ _ (sBo q (stD L) b x3 x4 (.fz (.lst xs)) x6 x7) = _ ∧ _
  rw [seq_at e1]
  rcases h4 with rfl | ⟨j, rfl⟩
  · exact ⟨.lst xs, .int l.sum, .fz (.int l.sum), rfl, trivial, .inr rfl, .inr ⟨_, rfl⟩⟩
  · by_cases hj : l.sum < j
    · refine ⟨.lst xs, .int l.sum, .fz (.int l.sum), ?_, trivial, .inr rfl, .inr ⟨_, rfl⟩⟩
      have t1 : mOr (mT (mOp dIsN (mVar 4) (mC .non))) (mT (mOp dLt (mVar 6) (mVar 4))) (sBo q (stD L) b x3 (.int j) (.fz (.lst xs)) (.fz (.int l.sum)) x7) = some (true, sBo q (stD L) b x3 (.int j) (.fz (.lst xs)) (.fz (.int l.sum)) x7) := by
        refine (or_no (s2 := sBo q (stD L) b x3 (.int j) (.fz (.lst xs)) (.fz (.int l.sum)) x7) rfl).trans ?_
        show some (decide (l.sum < j), _) = _
        rw [decide_eq_true hj]
      exact (if_at t1).trans rfl
    · refine ⟨x3, .int j, .fz (.int l.sum), ?_, trivial, .inl rfl, .inr ⟨_, rfl⟩⟩
      have t1 : mOr (mT (mOp dIsN (mVar 4) (mC .non))) (mT (mOp dLt (mVar 6) (mVar 4))) (sBo q (stD L) b x3 (.int j) (.fz (.lst xs)) (.fz (.int l.sum)) x7) = some (false, sBo q (stD L) b x3 (.int j) (.fz (.lst xs)) (.fz (.int l.sum)) x7) := by
        refine (or_no (s2 := sBo q (stD L) b x3 (.int j) (.fz (.lst xs)) (.fz (.int l.sum)) x7) rfl).trans ?_
        show some (decide (l.sum < j), _) = _
        rw [decide_eq_false hj]
      exact (if_at t1).trans rfl
theorem best_at : ∃ d t, phi_best_order [.fz q, .fz (stD L)] = some (d, t) ∧ d.shp = true := by
  obtain ⟨rows, t, e, hr⟩ := orders_at (body_len Q)
  have e0 : mAsgG (tg3 (tgN 2) (tgN 3) (tgN 4)) (mTup (mCons (mTold 0) (mCons (mC .non) (mCons (mC .non) mNil)))) ([.fz q, .fz (stD L)] ++ List.replicate 6 .no) = some (.nx, sBo q (stD L) b .non .non .no .no .no) := by
    unfold mAsgG mTup mCons
    rw [told_at Q (s := ([Sl.fz q, Sl.fz (stD L)] ++ List.replicate 6 Sl.no : S)) (i := 0) rfl]
    rfl
  have ei : mCallG 1 (phi_orders_of 8) (mGD (mLstRg (mCB dLen (mCons (mVar 2) mNil))) mGNil) (sBo q (stD L) b .non .non .no .no .no) = some (.lst rows, sBo q (stD L) b .non .non .no .no .no) := by
    refine call_data (np := 1) (ds := [.lst (upto b.length)]) (gd_data (ds := []) ?_ gn_data) rfl e
    have bl := body_len Q
    exact lstRg_at (cb_at (ds := [.lst b]) rfl rfl) (by omega)
  obtain ⟨s2, r1, x3, x4, x5, x6, x7, rfl, h5, h6, h7, h3, h4⟩ := loop_inv (f := fun d s => (tgN 5 d s).bind bBo) (ds := rows) (P := fun s => ∃ x3 x4 x5 x6 x7, s = sBo q (stD L) b x3 x4 x5 x6 x7 ∧ freeS x5 ∧ freeS x6 ∧ freeS x7 ∧ (x3 = .non ∨ rowOk b.length x3 = true) ∧ (x4 = .non ∨ isI x4)) (fun row hrow s ⟨x3, x4, x5, x6, x7, es, h5, h6, h7, h3, h4⟩ => by
    obtain ⟨y3, y4, y6, k, f6, f3, f4⟩ := bo_step Q T (x3 := x3) h5 h6 h7 (hr row hrow) h4
    subst es
    refine ⟨.nx, _, k, .inl rfl, y3, y4, _, y6, x7, rfl, trivial, f6, h7, ?_, f4⟩
    rcases f3 with rfl | rfl
    · exact h3
    · exact .inr (hr _ hrow)) (s := sBo q (stD L) b .non .non .no .no .no) ⟨.non, .non, .no, .no, .no, rfl, trivial, trivial, trivial, .inl rfl, .inl rfl⟩
  have e1 : mFor (itL (mCallG 1 (phi_orders_of 8) (mGD (mLstRg (mCB dLen (mCons (mVar 2) mNil))) mGNil))) (tgN 5) bBo (sBo q (stD L) b .non .non .no .no .no) = some (.nx, sBo q (stD L) b x3 x4 x5 x6 x7) := by
    unfold mFor
    rw [itL_at ei rfl]
    exact r1
  have em : m_best_order ([.fz q, .fz (stD L)] ++ List.replicate 6 .no) = some (.ret x3, sBo q (stD L) b x3 x4 x5 x6 x7) := by
    unfold m_best_order
    rw [seq_at (checkQ_at Q (i := 0) rfl), seq_at (checkS_at T (i := 1) rfl), seq_at e0, seq_at e1]
    rfl
  refine ⟨x3, [.fz q, .fz (stD L)], ?_, ?_⟩
  · unfold phi_best_order runDefG
    show ((m_best_order ([.fz q, .fz (stD L)] ++ List.replicate 6 .no)).bind _) = _
    rw [em]
    rfl
  · rcases h3 with rfl | h3
    · rfl
    · obtain ⟨xs, rfl, hl, hx⟩ := row_is h3
      exact ints_shp fun d hd => by
        obtain ⟨i, rfl, _⟩ := hx d hd
        exact ⟨i, rfl⟩
end
/-! matches_with -/
def uFill : List D := uDicts.flatMap fun m => uPats.map fun p => match phi_filled [.fz p, .fz m] with
  | some (d, _) => d
  | none => .non
theorem fill_at {p m : D} (hp : p ∈ uPats) (hm : m ∈ uDicts) : ∃ d t, phi_filled [.fz p, .fz m] = some (d, t) ∧ d.plain = true ∧ d.py.depth ≤ 8 := by
  have z : (uDicts.all fun m => uPats.all fun p => answers (phi_filled [.fz p, .fz m]) fun d => d.plain && decide (d.py.depth ≤ 8)) = true := by decide +kernel
  obtain ⟨d, t, e, y⟩ := answers_some (List.all_eq_true.mp (List.all_eq_true.mp z m hm) p hp)
  exact ⟨d, t, e, (Bool.and_eq_true_iff.mp y).1, of_decide_eq_true (Bool.and_eq_true_iff.mp y).2⟩
theorem facts_shp {f : D} (h : f ∈ uFacts) : f.shp = true := by
  have z : (uFacts.all fun f => f.shp) = true := by decide +kernel
  exact List.all_eq_true.mp z f h
theorem in_lst {f : D} {xs : List D} (hf : f.shp = true) (hx : (D.lst xs).shp = true) : ∃ b, dInW f (.lst xs) = some (.bl b) := by
  unfold dInW inW
  have e : inD f (.lst xs) = if (f.shp && (D.lst xs).shp) = true then some ((pys xs).any fun z => PyData.eqv z f.py) else none := rfl
  show ∃ b, (inD f (.lst xs)).map D.bl = _
  rw [e, hf, hx]
  exact ⟨_, rfl⟩
def sMw (q st f : D) (b fs : List D) (x5 x6 : Sl) : S := [.fz q, .fz st, .fz f, .fz (.lst b), .ow (.lst fs), x5, x6]
abbrev mFl : M := mLc (itL (mVar 3)) (tgN 6) [6] mYes (mCallG 2 phi_filled (mGD (mVar 6) (mGD (mVar 5) mGNil))) [6]
abbrev bMw : MS := mIfS (mT (mOp dInW (mVar 2) mFl)) (mApp 4 (mCallG 2 phi_match_names (mGD (mVar 3) (mGD (mVar 5) mGNil)))) mSkip
section
variable {q : D} {b g : List D} {L : List (List PySem.Str)} (Q : IsQ q b g) (T : IsSt L)
include Q
theorem mw_step {m f : D} {fs : List D} {x5 x6 : Sl} (h5 : freeS x5) (h6 : freeS x6) (hf : f ∈ uFacts) (hm : GoodV b m) (hfs : ∀ d ∈ fs, d ∈ uRows) (hl : fs.length < 100000) :
    ∃ fs', (tgN 5 m (sMw q (stD L) f b fs x5 x6)).bind bMw = some (.nx, sMw q (stD L) f b fs' (.fz m) x6) ∧ (∀ d ∈ fs', d ∈ uRows) ∧ fs'.length ≤ fs.length + 1 := by
  rw [tg_at (free_ok (x := x5) rfl h5)]
  show ∃ fs', mIfS _ _ _ (sMw q (stD L) f b fs (.fz m) x6) = _ ∧ _
  have hno : (noOwn (sMw q (stD L) f b fs (.fz m) x6) [6] && [6].all fun j => [6].contains j) = true := by
    cases x6 <;> first | rfl | exact h6.elim
  obtain ⟨xs, p1, p2, p3⟩ := mLc_all (Good := fun d => d.plain = true ∧ d.py.depth ≤ 8) (tg := tgN 6) (t := mYes) (e := mCallG 2 phi_filled (mGD (mVar 6) (mGD (mVar 5) mGNil))) (itL_at (s := sMw q (stD L) f b fs (.fz m) x6) (a := mVar 3) (d := .lst b) (var_at rfl) rfl) hno (fun p hp => by
    obtain ⟨d, t, e, h1, h2⟩ := fill_at (body_mem Q p hp) hm.1
    exact ⟨sMw q (stD L) f b fs (.fz m) (.fz p), true, sMw q (stD L) f b fs (.fz m) (.fz p), tg_at rfl, rfl, fun _ => ⟨d, _, call_data (np := 2) (ds := [p, m]) (gd_data (ds := [m]) (var_at rfl) (gd_data (ds := []) (var_at rfl) gn_data)) rfl e, ⟨h1, h2⟩, rfl⟩, fun z => nomatch z⟩) (by have := body_len Q; omega)
  obtain ⟨c, ec⟩ := in_lst (facts_shp hf) (shp_lst (fun d hd => (p2 d hd).1) (fun d hd => (p2 d hd).2) (by decide))
  have t1 : mT (mOp dInW (mVar 2) mFl) (sMw q (stD L) f b fs (.fz m) x6) = some (c, sMw q (stD L) f b fs (.fz m) x6) := t_at (op_at (x := f) (var_at rfl) p1 ec) rfl
  rw [if_at t1]
  cases c with
  | false => exact ⟨fs, rfl, hfs, Nat.le_succ _⟩
  | true =>
    obtain ⟨d, t, e, hd⟩ := names_at Q.hb hm
    have k : mCallG 2 phi_match_names (mGD (mVar 3) (mGD (mVar 5) mGNil)) (sMw q (stD L) f b fs (.fz m) x6) = some (d, sMw q (stD L) f b fs (.fz m) x6) := call_data (np := 2) (ds := [.lst b, m]) (gd_data (ds := [m]) (var_at rfl) (gd_data (ds := []) (var_at rfl) gn_data)) rfl e
    refine ⟨fs ++ [d], ?_, fun x hx => ?_, by rw [List.length_append]; exact Nat.le_refl _⟩
    · rw [if_pos rfl]
      unfold mApp
      show (Option.bind _ _) = _
      rw [k]
      show (if fs.length < 100000 then _ else _) = _
      rw [if_pos hl]
      rfl
    · rcases List.mem_append.mp hx with w | w
      · exact hfs x w
      · rw [List.mem_singleton.mp w]; exact hd
include T
theorem with_at {f : D} (hf : f ∈ uFacts) : ∃ rs t, phi_matches_with [.fz q, .fz (stD L), .fz f] = some (.lst rs, t) ∧ (∀ r ∈ rs, r ∈ uRows) := by
  have e0 : mParXO 3 4 (mTold 0) (mLst mNil) ([.fz q, .fz (stD L), .fz f] ++ List.replicate 4 .no) = some (.nx, sMw q (stD L) f b [] .no .no) := by
    unfold mParXO
    rw [told_at Q (s := ([Sl.fz q, Sl.fz (stD L), Sl.fz f] ++ List.replicate 4 Sl.no : S)) (i := 0) rfl]
    rfl
  have ec : mDrop (mCallG 1 phi_check_fact (mGD (mVar 2) mGNil)) ([.fz q, .fz (stD L), .fz f] ++ List.replicate 4 .no) = some (.nx, [.fz q, .fz (stD L), .fz f] ++ List.replicate 4 .no) := by
    obtain ⟨t, e⟩ := check_fact_at hf
    exact drop_at (call_data (np := 1) (ds := [f]) (gd_data (ds := []) (var_at rfl) gn_data) rfl e)
  obtain ⟨ns, ei, hm, hn⟩ := minC_at Q T (s := sMw q (stD L) f b [] .no .no) (i := 0) (j := 1) rfl rfl
  obtain ⟨s2, r1, fs, y5, y6, rfl, h5, h6, hr, hl⟩ := loop_at (f := fun d s => (tgN 5 d s).bind bMw) (ds := ns) (P := fun pre s => ∃ fs y5 y6, s = sMw q (stD L) f b fs y5 y6 ∧ freeS y5 ∧ freeS y6 ∧ (∀ d ∈ fs, d ∈ uRows) ∧ fs.length ≤ pre.length) [] (fun a d c z s ⟨fs, y5, y6, es, h5, h6, hr, hl⟩ => by
    have hd : d ∈ ns := by
      rw [List.nil_append] at z
      rw [z]
      exact List.mem_append_right _ List.mem_cons_self
    have hlen : a.length ≤ 1728 := by
      have y := congrArg List.length z
      rw [List.nil_append, List.length_append] at y
      omega
    obtain ⟨fs', k, k1, k2⟩ := mw_step Q (L := L) h5 h6 hf (hm d hd) hr (by omega)
    subst es
    exact ⟨.nx, _, k, .inl rfl, fs', _, y6, rfl, trivial, h6, k1, by rw [List.length_append, List.length_singleton]; omega⟩) (s := sMw q (stD L) f b [] .no .no) ⟨[], .no, .no, rfl, trivial, trivial, fun d z => (nomatch z), Nat.le_refl _⟩
  have e1 : mFor (itL (mCallG 2 phi_matches_in (mGD (mVar 0) (mGD (mCallG 1 phi_as_facts (mGD (mVar 1) mGNil)) mGNil)))) (tgN 5) bMw (sMw q (stD L) f b [] .no .no) = some (.nx, sMw q (stD L) f b fs y5 y6) := by
    unfold mFor
    rw [itL_at ei rfl]
    exact r1
  obtain ⟨rs, k1, k2⟩ := sort_rows hr (by rw [List.nil_append] at hl; omega)
  have em : m_matches_with ([.fz q, .fz (stD L), .fz f] ++ List.replicate 4 .no) = some (.ret (.lst rs), [.fz q, .fz (stD L), .fz f, .fz (.lst b), .fz (.lst fs), y5, y6]) := by
    unfold m_matches_with
    rw [seq_at (checkQ_at Q (i := 0) rfl), seq_at (checkS_at T (i := 1) rfl), seq_at ec, seq_at e0, seq_at e1]
    show ((sortD fs).map _).map _ = _
    rw [k1]
    rfl
  refine ⟨rs, [.fz q, .fz (stD L), .fz f], ?_, k2⟩
  unfold phi_matches_with runDefG
  show ((m_matches_with ([.fz q, .fz (stD L), .fz f] ++ List.replicate 4 .no)).bind _) = _
  rw [em]
  rfl
end
end K12

set_option Elab.async false
set_option linter.all false
set_option maxRecDepth 100000
set_option maxHeartbeats 400000
namespace K12
open PySem PySem.Spec PyProof.Rows L2 NE He Evl Fr
/-! what is drawn: _law_mixed, _law_draw, _law_one_of -/
theorem mixed_at {a b c : Int} (ha : 0 ≤ a ∧ a < 4294967296) (hb : 0 ≤ b ∧ b < 4294967296) (hc : 0 ≤ c ∧ c < 4294967296) : ∃ r t, phi__law_mixed [.fz (.int a), .fz (.int b), .fz (.int c)] = some (.int r, t) ∧ 0 ≤ r ∧ r < 2147483587 := by
  have m1 := mul_lt' (a := 4294967296) (b := 4294967296) (i := 104729) (j := b) (by decide) (by decide) hb.1 hb.2
  generalize hx : a * 69069 + 104729 * b * b = x
  have e1 : mSet 3 (mOp dAdd (mOp dMul (mVar 0) (mC (.int 69069))) (mOp dMul (mOp dMul (mC (.int 104729)) (mVar 1)) (mVar 1))) [.fz (.int a), .fz (.int b), .fz (.int c), .no] = some (.nx, [.fz (.int a), .fz (.int b), .fz (.int c), .fz (.int x)]) :=
    set_at (d := .int x) (op_at (x := .int (a * 69069)) (y := .int (104729 * b * b)) (op_at (x := .int a) (y := .int 69069) rfl rfl (dmul ha.1 (by omega) (by decide) (by decide))) (op_at (x := .int (104729 * b)) (y := .int b) (op_at (x := .int 104729) (y := .int b) rfl rfl (dmul (by decide) (by decide) hb.1 (by omega))) rfl (dmul m1.1 (by omega) hb.1 (by omega))) (by rw [← hx]; rfl)) rfl
  generalize hy : (x + 7919 * c + b) % 2147483647 = y
  have m2 := mdz (i := x + 7919 * c + b) (m := 2147483647) (by decide)
  rw [hy] at m2
  have e2 : mSet 3 (mOp dMod (mOp dAdd (mOp dAdd (mVar 3) (mOp dMul (mC (.int 7919)) (mVar 2))) (mVar 1)) (mC (.int 2147483647))) [.fz (.int a), .fz (.int b), .fz (.int c), .fz (.int x)] = some (.nx, [.fz (.int a), .fz (.int b), .fz (.int c), .fz (.int y)]) :=
    set_at (d := .int y) (op_at (x := .int (x + 7919 * c + b)) (y := .int 2147483647) (op_at (x := .int (x + 7919 * c)) (y := .int b) (op_at (x := .int x) (y := .int (7919 * c)) rfl (op_at (x := .int 7919) (y := .int c) rfl rfl (dmul (by decide) (by decide) hc.1 (by omega))) rfl) rfl rfl) rfl (by rw [← hy]; exact dmod (by decide))) rfl
  generalize hz : (y * y + 40503) % 2147483629 = z
  have m3 := mdz (i := y * y + 40503) (m := 2147483629) (by decide)
  rw [hz] at m3
  have e3 : mSet 3 (mOp dMod (mOp dAdd (mOp dMul (mVar 3) (mVar 3)) (mC (.int 40503))) (mC (.int 2147483629))) [.fz (.int a), .fz (.int b), .fz (.int c), .fz (.int y)] = some (.nx, [.fz (.int a), .fz (.int b), .fz (.int c), .fz (.int z)]) :=
    set_at (d := .int z) (op_at (x := .int (y * y + 40503)) (y := .int 2147483629) (op_at (x := .int (y * y)) (y := .int 40503) (op_at (x := .int y) (y := .int y) rfl rfl (dmul m2.1 (by omega) m2.1 (by omega))) rfl rfl) rfl (by rw [← hz]; exact dmod (by decide))) rfl
  have m4 := mdz (i := z * 48271) (m := 2147483587) (by decide)
  have em : m__law_mixed [.fz (.int a), .fz (.int b), .fz (.int c), .no] = some (.ret (.int (z * 48271 % 2147483587)), [.fz (.int a), .fz (.int b), .fz (.int c), .fz (.int z)]) := by
    unfold m__law_mixed
    rw [seq_at e1, seq_at e2, seq_at e3]
    exact ret_at (op_at (x := .int (z * 48271)) (y := .int 2147483587) (op_at (x := .int z) (y := .int 48271) rfl rfl (dmul m3.1 (by omega) (by decide) (by decide))) rfl (dmod (by decide)))
  refine ⟨_, [.fz (.int a), .fz (.int b), .fz (.int c)], ?_, m4.1, m4.2⟩
  unfold phi__law_mixed runDefG
  show ((m__law_mixed [.fz (.int a), .fz (.int b), .fz (.int c), .no]).bind _) = _
  rw [em]
  rfl
theorem draw_at {p : D} {n : Nat} {r : Int} (P : POk n p) (hn : n ≤ 1000) (r0 : 0 < r) (r1 : r ≤ 1000) : ∃ k p' t, phi__law_draw [.pm p, .fz (.int r)] = some (.int k, .pm p' :: t) ∧ 0 ≤ k ∧ k < r ∧ POk (n + 1) p' := by
  obtain ⟨a, b, c, d, rfl, ha, hb, hc, hd⟩ := P
  have fin : ∀ {k : Int} {p' : D} {x2 x3 x4 : Sl}, m__law_draw [.pm (pu a b c d), .fz (.int r), .no, .no, .no] = some (.ret (.int k), [.pm p', .fz (.int r), x2, x3, x4]) → phi__law_draw [.pm (pu a b c d), .fz (.int r)] = some (.int k, [.pm p', .fz (.int r)]) := fun {k p' x2 x3 x4} e => by
    unfold phi__law_draw runDefG
    show ((m__law_draw [.pm (pu a b c d), .fz (.int r), .no, .no, .no]).bind _) = _
    rw [e]
    rfl
  have t1 : mT (mOp dGt (mIxO 0 (mC (.int 0))) (mC (.int 0))) [.pm (pu a b c d), .fz (.int r), .no, .no, .no] = some (decide (a > 0), [.pm (pu a b c d), .fz (.int r), .no, .no, .no]) := rfl
  by_cases h : a > 0
  · have mk := mdz (i := a) r0
    have e1 : mSet 2 (mOp dMod (mIxO 0 (mC (.int 0))) (mVar 1)) [.pm (pu a b c d), .fz (.int r), .no, .no, .no] = some (.nx, [.pm (pu a b c d), .fz (.int r), .fz (.int (a % r)), .no, .no]) :=
      set_at (op_at (x := .int a) (y := .int r) rfl rfl (dmod r0)) rfl
    have e2 : mPutL 0 (mC (.int 0)) (mOp dFdiv (mIxO 0 (mC (.int 0))) (mVar 1)) [.pm (pu a b c d), .fz (.int r), .fz (.int (a % r)), .no, .no] = some (.nx, [.pm (pu (a / r) b c d), .fz (.int r), .fz (.int (a % r)), .no, .no]) := by
      have k : mOp dFdiv (mIxO 0 (mC (.int 0))) (mVar 1) [.pm (pu a b c d), .fz (.int r), .fz (.int (a % r)), .no, .no] = some (.int (a / r), [.pm (pu a b c d), .fz (.int r), .fz (.int (a % r)), .no, .no]) := op_at (x := .int a) (y := .int r) rfl rfl (dfdiv r0 (by omega))
      unfold mPutL
      rw [k]
      rfl
    refine ⟨a % r, pu (a / r) b c d, _, fin (x2 := .fz (.int (a % r))) (x3 := .no) (x4 := .no) ?_, mk.1, mk.2, a / r, b, c, d, rfl, Int.ediv_nonneg ha (by omega), hb, ⟨hc.1, by omega⟩, hd⟩
    unfold m__law_draw
    have e3 : mIfS (mT (mOp dGt (mIxO 0 (mC (.int 0))) (mC (.int 0)))) (mSeq (mSet 2 (mOp dMod (mIxO 0 (mC (.int 0))) (mVar 1))) (mSeq (mPutL 0 (mC (.int 0)) (mOp dFdiv (mIxO 0 (mC (.int 0))) (mVar 1))) (mRet (mVar 2)))) mSkip [.pm (pu a b c d), .fz (.int r), .no, .no, .no] = some (.ret (.int (a % r)), [.pm (pu (a / r) b c d), .fz (.int r), .fz (.int (a % r)), .no, .no]) := by
      rw [if_at t1, decide_eq_true h, if_pos rfl, seq_at e1, seq_at e2]
      rfl
    exact seq_ret e3
  · have e0 : mIfS (mT (mOp dGt (mIxO 0 (mC (.int 0))) (mC (.int 0)))) (mSeq (mSet 2 (mOp dMod (mIxO 0 (mC (.int 0))) (mVar 1))) (mSeq (mPutL 0 (mC (.int 0)) (mOp dFdiv (mIxO 0 (mC (.int 0))) (mVar 1))) (mRet (mVar 2)))) mSkip [.pm (pu a b c d), .fz (.int r), .no, .no, .no] = some (.nx, [.pm (pu a b c d), .fz (.int r), .no, .no, .no]) := by
      rw [if_at t1, decide_eq_false h, if_neg (by decide)]
      rfl
    have e1 : mSet 3 (mC (.int 0)) [.pm (pu a b c d), .fz (.int r), .no, .no, .no] = some (.nx, [.pm (pu a b c d), .fz (.int r), .no, .fz (.int 0), .no]) := rfl
    have n1 := bitsS r0 r1
    have er : itR1 (mCons (mOp dAdd (mC (.int 1)) (mOp dFdiv (mBits (mVar 1)) (mC (.int 28)))) mNil) [.pm (pu a b c d), .fz (.int r), .no, .fz (.int 0), .no] = some ([.int 0], [.pm (pu a b c d), .fz (.int r), .no, .fz (.int 0), .no]) := by
      have k : mCons (mOp dAdd (mC (.int 1)) (mOp dFdiv (mBits (mVar 1)) (mC (.int 28)))) mNil [.pm (pu a b c d), .fz (.int r), .no, .fz (.int 0), .no] = some ([.int 1], [.pm (pu a b c d), .fz (.int r), .no, .fz (.int 0), .no]) :=
        cons_at2 (op_at (x := .int 1) (y := .int (((Builtin.Int.intBits r : Nat) : Int) / 28)) rfl (op_at (x := .int ((Builtin.Int.intBits r : Nat) : Int)) (y := .int 28) rfl rfl (dfdiv (by decide) (by decide))) (by
          show some (D.int (1 + ((Builtin.Int.intBits r : Nat) : Int) / 28)) = _
          rw [n1])) rfl
      unfold itR1
      rw [k]
      rfl
    obtain ⟨m, t2, k2, m0, m1⟩ := mixed_at (a := b) (b := c + 1) (c := d) hb (by omega) hd
    have eb : (tgN 4 (.int 0) [.pm (pu a b c d), .fz (.int r), .no, .fz (.int 0), .no]).bind (mSeq (mPutL 0 (mC (.int 2)) (mOp dAdd (mIxO 0 (mC (.int 2))) (mC (.int 1)))) (mSet 3 (mOp dAdd (mOp dMul (mVar 3) (mC (.int 2147483587))) (mCallG 3 phi__law_mixed (mGD (mIxO 0 (mC (.int 1))) (mGD (mIxO 0 (mC (.int 2))) (mGD (mIxO 0 (mC (.int 3))) mGNil))))))) = some (.nx, [.pm (pu a b (c + 1) d), .fz (.int r), .no, .fz (.int m), .fz (.int 0)]) := by
      rw [tg_at (s := ([.pm (pu a b c d), .fz (.int r), .no, .fz (.int 0), .no] : S)) (i := 4) rfl, Option.bind_some]
      show mSeq _ _ [.pm (pu a b c d), .fz (.int r), .no, .fz (.int 0), .fz (.int 0)] = _
      have e2 : mPutL 0 (mC (.int 2)) (mOp dAdd (mIxO 0 (mC (.int 2))) (mC (.int 1))) [.pm (pu a b c d), .fz (.int r), .no, .fz (.int 0), .fz (.int 0)] = some (.nx, [.pm (pu a b (c + 1) d), .fz (.int r), .no, .fz (.int 0), .fz (.int 0)]) := rfl
      rw [seq_at e2]
      refine set_at (d := .int m) (op_at (x := .int 0) (y := .int m) (op_at (x := .int 0) (y := .int 2147483587) rfl rfl (dmul (by decide) (by decide) (by decide) (by decide))) (call_data (np := 3) (ds := [.int b, .int (c + 1), .int d]) (gd_data (ds := [.int (c + 1), .int d]) rfl (gd_data (ds := [.int d]) rfl (gd_data (ds := []) rfl gn_data))) rfl k2) ?_) rfl
      show some (D.int (0 + m)) = _
      rw [Int.zero_add]
    have ef : mFor (itR1 (mCons (mOp dAdd (mC (.int 1)) (mOp dFdiv (mBits (mVar 1)) (mC (.int 28)))) mNil)) (tgN 4) (mSeq (mPutL 0 (mC (.int 2)) (mOp dAdd (mIxO 0 (mC (.int 2))) (mC (.int 1)))) (mSet 3 (mOp dAdd (mOp dMul (mVar 3) (mC (.int 2147483587))) (mCallG 3 phi__law_mixed (mGD (mIxO 0 (mC (.int 1))) (mGD (mIxO 0 (mC (.int 2))) (mGD (mIxO 0 (mC (.int 3))) mGNil))))))) [.pm (pu a b c d), .fz (.int r), .no, .fz (.int 0), .no] = some (.nx, [.pm (pu a b (c + 1) d), .fz (.int r), .no, .fz (.int m), .fz (.int 0)]) := by
      unfold mFor
      rw [er]
      simp only [Option.bind_some]
      unfold loopM
      rw [eb]
      rfl
    have mk := mdz (i := m) r0
    refine ⟨m % r, pu a b (c + 1) d, _, fin (x2 := .no) (x3 := .fz (.int m)) (x4 := .fz (.int 0)) ?_, mk.1, mk.2, a, b, c + 1, d, rfl, ha, hb, ⟨by omega, by omega⟩, hd⟩
    unfold m__law_draw
    rw [seq_at e0, seq_at e1, seq_at ef]
    exact ret_at (op_at (x := .int m) (y := .int r) rfl rfl (dmod r0))
/-- a draw, the purse standing in a slot -/
theorem draw_call {s : S} {j : Nat} {p : D} {n : Nat} {r : Int} {a : M} (hj : cellAt s j = some p) (P : POk n p) (hn : n ≤ 1000) (ha : a s = some (.int r, s)) (r0 : 0 < r) (r1 : r ≤ 1000) : ∃ k p', mCallG 2 phi__law_draw (mGV j (mGD a mGNil)) s = some (.int k, setCell s j p') ∧ 0 ≤ k ∧ k < r ∧ POk (n + 1) p' := by
  obtain ⟨k, p', t, e, k0, k1, P'⟩ := draw_at P hn r0 r1
  exact ⟨k, p', pcall_at (ds := [.int r]) hj (gd_data (ds := []) ha gn_data) rfl e, k0, k1, P'⟩
theorem one_at {p : D} {n : Nat} {ds : List D} (P : POk n p) (hn : n ≤ 1000) (h0 : 0 < ds.length) (h1 : ds.length ≤ 1000) : ∃ d p' t, phi__law_one_of [.pm p, .fz (.lst ds)] = some (d, .pm p' :: t) ∧ d ∈ ds ∧ POk (n + 1) p' := by
  obtain ⟨k, p', e, k0, k1, P'⟩ := draw_call (s := [.pm p, .fz (.lst ds)]) (j := 0) (p := p) (a := mCB dLen (mCons (mVar 1) mNil)) (r := ((ds.length : Nat) : Int)) rfl P hn rfl (by omega) (by omega)
  obtain ⟨i, rfl⟩ := Int.eq_ofNat_of_zero_le k0
  have hi : i < ds.length := by omega
  refine ⟨ds[i], p', [.fz (.lst ds)], ?_, List.getElem_mem hi, P'⟩
  have em : m__law_one_of [.pm p, .fz (.lst ds)] = some (.ret ds[i], [.pm p', .fz (.lst ds)]) := by
    unfold m__law_one_of
    exact ret_at (op_at2 (x := .lst ds) (y := .int (i : Nat)) rfl e (atI_nat (List.getElem?_eq_getElem hi)))
  unfold phi__law_one_of runDefG
  show ((m__law_one_of [.pm p, .fz (.lst ds)]).bind _) = _
  rw [em]
  rfl
theorem one_call {s : S} {j : Nat} {p : D} {n : Nat} {ds : List D} {a : M} (hj : cellAt s j = some p) (P : POk n p) (hn : n ≤ 1000) (ha : a s = some (.lst ds, s)) (h0 : 0 < ds.length) (h1 : ds.length ≤ 1000) : ∃ d p', mCallG 2 phi__law_one_of (mGV j (mGD a mGNil)) s = some (d, setCell s j p') ∧ d ∈ ds ∧ POk (n + 1) p' := by
  obtain ⟨d, p', t, e, hd, P'⟩ := one_at P hn h0 h1
  exact ⟨d, p', pcall_at (ds := [.lst ds]) hj (gd_data (ds := []) ha gn_data) rfl e, hd, P'⟩
end K12

set_option Elab.async false
set_option linter.all false
set_option maxRecDepth 100000
set_option maxHeartbeats 400000
namespace K12
open PySem PySem.Spec PyProof.Rows L2 NE He Evl Fr
/-! _law_parts, _law_bags -/
def gapsL : D := .lst (uGs.map D.lst)
theorem gap_ix {k : Int} (h0 : 0 ≤ k) (h1 : k < 3) : ∃ g, dIxW gapsL (.int k) = some (.lst g) ∧ g ∈ uGs := by
  have z : ([0, 1, 2].all fun k : Nat => match dIxW gapsL (.int (k : Nat)) with
    | some (.lst g) => uGs.any fun c => sameL c g
    | _ => false) = true := by decide +kernel
  obtain ⟨i, rfl⟩ := Int.eq_ofNat_of_zero_le h0
  have hi : i ∈ [0, 1, 2] := by
    have : i < 3 := by omega
    match i, this with
    | 0, _ => decide
    | 1, _ => decide
    | 2, _ => decide
  have y := List.all_eq_true.mp z i hi
  split at y
  · rename_i g e
    obtain ⟨c, hc, q⟩ := List.any_eq_true.mp y
    exact ⟨g, e, by rw [← sameL_eq q]; exact hc⟩
  · cases y
def fullB (d : D) : D := .lst [tup' ["way", "X", "Y"], .tup [.str "p", d], tup' ["way", "Y", "X"]]
theorem body_cut {d : D} {k : Int} (hd : d ∈ uParts) (h0 : 0 ≤ k) (h1 : k < 3) : ∃ b, dSl (fullB d) none (some (1 + k)) = some (.lst b) ∧ b ∈ uBodies := by
  have z : (uParts.all fun d => [0, 1, 2].all fun k : Nat => match dSl (fullB d) none (some (1 + (k : Nat))) with
    | some (.lst g) => uBodies.any fun c => sameL c g
    | _ => false) = true := by decide +kernel
  obtain ⟨i, rfl⟩ := Int.eq_ofNat_of_zero_le h0
  have hi : i ∈ [0, 1, 2] := by
    have : i < 3 := by omega
    match i, this with
    | 0, _ => decide
    | 1, _ => decide
    | 2, _ => decide
  have y := List.all_eq_true.mp (List.all_eq_true.mp z d hd) i hi
  split at y
  · rename_i g e
    obtain ⟨c, hc, q⟩ := List.any_eq_true.mp y
    exact ⟨g, e, by rw [← sameL_eq q]; exact hc⟩
  · cases y
def fullR : D := .lst [.tup [.str "rain"], .tup [.str "q", .str "X"]]
theorem bar_cut {k : Int} (h0 : 0 ≤ k) (h1 : k < 3) : ∃ r, dSl fullR none (some k) = some r ∧ r ∈ barss := by
  have z : ([0, 1, 2].all fun k : Nat => match dSl fullR none (some ((k : Nat) : Int)) with
    | some r => among barss r
    | _ => false) = true := by decide +kernel
  obtain ⟨i, rfl⟩ := Int.eq_ofNat_of_zero_le h0
  have hi : i ∈ [0, 1, 2] := by
    have : i < 3 := by omega
    match i, this with
    | 0, _ => decide
    | 1, _ => decide
    | 2, _ => decide
  have y := List.all_eq_true.mp z i hi
  split at y
  · rename_i g e
    exact ⟨g, e, among_mem y⟩
  · cases y
def fullT : D := .lst [.str "X", .str "Y"]
theorem top_cut {k : Int} (h0 : 0 ≤ k) (h1 : k < 3) : ∃ t, dSl fullT none (some k) = some (.lst t) ∧ t ∈ uTops := by
  have z : ([0, 1, 2].all fun k : Nat => match dSl fullT none (some ((k : Nat) : Int)) with
    | some (.lst r) => uTops.any fun c => sameL c r
    | _ => false) = true := by decide +kernel
  obtain ⟨i, rfl⟩ := Int.eq_ofNat_of_zero_le h0
  have hi : i ∈ [0, 1, 2] := by
    have : i < 3 := by omega
    match i, this with
    | 0, _ => decide
    | 1, _ => decide
    | 2, _ => decide
  have y := List.all_eq_true.mp z i hi
  split at y
  · rename_i g e
    obtain ⟨c, hc, q⟩ := List.any_eq_true.mp y
    exact ⟨g, e, by rw [← sameL_eq q]; exact hc⟩
  · cases y
theorem parts_at {p : D} {n : Nat} (P : POk n p) (hn : n ≤ 500) : ∃ b g r p' t, phi__law_parts [.pm p] = some (.lst [.lst b, .lst g, r], .pm p' :: t) ∧ b ∈ uBodies ∧ g ∈ uGs ∧ r ∈ barss ∧ POk (n + 4) p' := by
  obtain ⟨d, p1, o1, hd, P1⟩ := one_call (s := [.pm p, .no, .no]) (j := 0) (p := p) (a := mLst (mCons (mStr "X") (mCons (mStr "Y") (mCons (mStr "a") mNil)))) (ds := uParts) rfl P (by omega) (by kernel_rfl) (by decide) (by decide)
  have e1 : mSet 1 (mLst (mCons (mTup (mCons (mStr "way") (mCons (mStr "X") (mCons (mStr "Y") mNil)))) (mCons (mTup (mCons (mStr "p") (mCons (mCallG 2 phi__law_one_of (mGV 0 (mGD (mLst (mCons (mStr "X") (mCons (mStr "Y") (mCons (mStr "a") mNil)))) mGNil))) mNil))) (mCons (mTup (mCons (mStr "way") (mCons (mStr "Y") (mCons (mStr "X") mNil)))) mNil)))) [.pm p, .no, .no] = some (.nx, [.pm p1, .fz (fullB d), .no]) :=
    set_at2 (s1 := [.pm p1, .no, .no]) (lst_at2 (cons_at2 (s1 := [.pm p, .no, .no]) (by kernel_rfl) (cons_at2 (tup_at2 (cons_at2 (s1 := [.pm p, .no, .no]) (by kernel_rfl) (cons_at2 o1 rfl)) (show 2 ≤ 100000 by decide)) (cons_at2 (s1 := [.pm p1, .no, .no]) (by kernel_rfl) rfl))) (show 3 ≤ 100000 by decide)) rfl
  obtain ⟨k2, p2, o2, k20, k21, P2⟩ := draw_call (s := [.pm p1, .fz (fullB d), .no]) (j := 0) (p := p1) (a := mC (.int 3)) (r := 3) rfl P1 (by omega) rfl (by decide) (by decide)
  obtain ⟨g, x2, hg⟩ := gap_ix k20 k21
  have e2 : mSet 2 (mOp dIxW (mLst (mCons (mLst mNil) (mCons (mLst (mCons (mTup (mCons (mStr "X") (mCons (mStr "Y") mNil))) mNil)) (mCons (mLst (mCons (mTup (mCons (mStr "X") (mCons (mStr "a") mNil))) (mCons (mTup (mCons (mStr "X") (mCons (mStr "Y") mNil))) mNil))) mNil)))) (mCallG 2 phi__law_draw (mGV 0 (mGD (mC (.int 3)) mGNil)))) [.pm p1, .fz (fullB d), .no] = some (.nx, [.pm p2, .fz (fullB d), .fz (.lst g)]) :=
    set_at2 (s1 := [.pm p2, .fz (fullB d), .no]) (op_at2 (x := gapsL) (s1 := [.pm p1, .fz (fullB d), .no]) (by kernel_rfl) o2 x2) rfl
  obtain ⟨k3, p3, o3, k30, k31, P3⟩ := draw_call (s := [.pm p2, .fz (fullB d), .fz (.lst g)]) (j := 0) (p := p2) (a := mC (.int 3)) (r := 3) rfl P2 (by omega) rfl (by decide) (by decide)
  obtain ⟨b, x3, hb⟩ := body_cut hd k30 k31
  obtain ⟨k4, p4, o4, k40, k41, P4⟩ := draw_call (s := [.pm p3, .fz (fullB d), .fz (.lst g)]) (j := 0) (p := p3) (a := mC (.int 3)) (r := 3) rfl P3 (by omega) rfl (by decide) (by decide)
  obtain ⟨r, x4, hr⟩ := bar_cut k40 k41
  have em : m__law_parts [.pm p, .no, .no] = some (.ret (.lst [.lst b, .lst g, r]), [.pm p4, .fz (fullB d), .fz (.lst g)]) := by
    unfold m__law_parts
    rw [seq_at e1, seq_at e2]
    refine ret_at2 (lst_at2 (cons_at2 (s1 := [.pm p3, .fz (fullB d), .fz (.lst g)]) (sl_at2 (d := fullB d) (s1 := [.pm p2, .fz (fullB d), .fz (.lst g)]) (s2 := [.pm p2, .fz (fullB d), .fz (.lst g)]) (l := none) (h := some (1 + k3)) rfl rfl (part_at2 (op_at2 (x := .int 1) (y := .int k3) rfl o3 rfl)) x3) (cons_at2 (d := .lst g) (s1 := [.pm p3, .fz (fullB d), .fz (.lst g)]) rfl (cons_at2 (sl_at2 (d := fullR) (s1 := [.pm p3, .fz (fullB d), .fz (.lst g)]) (s2 := [.pm p3, .fz (fullB d), .fz (.lst g)]) (l := none) (h := some k4) (by kernel_rfl) rfl (part_at2 o4) x4) rfl))) (show 3 ≤ 100000 by decide))
  refine ⟨b, g, r, p4, [], ?_, hb, hg, hr, P4⟩
  unfold phi__law_parts runDefG
  show ((m__law_parts [.pm p, .no, .no]).bind _) = _
  rw [em]
  rfl
/-! bags -/
theorem lcM_one {tg : D → S → Option S} {e : M} {vs : List Nat} {d x : D} {ds acc : List D} {s s1 s2 : S} (h1 : tg d s = some s1) (h2 : e s1 = some (x, s2)) (h3 : acc.length < 100000) : lcM tg mYes e vs (d :: ds) s acc = lcM tg mYes e vs ds (wipeS s2 vs) (acc ++ [x]) := by
  show ((tg d s).bind fun s1 => (mYes s1).bind fun p => if p.1 = true then (e p.2).bind fun q => if acc.length < 100000 then lcM tg mYes e vs ds (wipeS q.2 vs) (acc ++ [q.1]) else none else lcM tg mYes e vs ds (wipeS p.2 vs) acc) = _
  rw [h1]
  show ((e s1).bind fun q => if acc.length < 100000 then lcM tg mYes e vs ds (wipeS q.2 vs) (acc ++ [q.1]) else none) = _
  rw [h2]
  show (if acc.length < 100000 then lcM tg mYes e vs ds (wipeS s2 vs) (acc ++ [x]) else none) = _
  rw [if_pos h3]
def sBg (p : D) (L : List (List PySem.Str)) (x2 x3 x4 x5 : Sl) : S := [.pm p, .ow (.lst (L.map tup')), x2, x3, x4, x5]
def uNs : List D := uN.map D.str
abbrev mOne3 : M := mCallG 2 phi__law_one_of (mGV 0 (mGD (mLst (mCons (mStr "a") (mCons (mStr "b") (mCons (mStr "x") mNil)))) mGNil))
abbrev mEnds : M := mLc (itR1 (mCons (mC (.int 2)) mNil)) (tgN 4) [4] mYes mOne3 [4]
abbrev mThing : M := mCallG 2 phi__law_one_of (mGV 0 (mGD (mLst (mCons (mTup (mCons (mStr "way") (mCons (mOp dIxW (mVar 3) (mC (.int 0))) (mCons (mOp dIxW (mVar 3) (mC (.int 1))) mNil)))) (mCons (mTup (mCons (mStr "p") (mCons (mOp dIxW (mVar 3) (mC (.int 0))) mNil))) mNil))) mGNil))
abbrev bBg : MS := mSeq (mSet 3 mEnds) (mSeq (mSet 5 mThing) (mIfS (mT (mInO true (mVar 5) 1)) (mApp 1 (mVar 5)) mSkip))
theorem ends_at {p : D} {n : Nat} {L : List (List PySem.Str)} {x2 x3 x4 x5 : Sl} (h4 : freeS x4) (P : POk n p) (hn : n ≤ 500) : ∃ u v p', mEnds (sBg p L x2 x3 x4 x5) = some (.lst [.str u, .str v], sBg p' L x2 x3 x4 x5) ∧ u ∈ uN ∧ v ∈ uN ∧ POk (n + 2) p' := by
  have hno : (noOwn (sBg p L x2 x3 x4 x5) [4] && [4].all fun j => [4].contains j) = true := by
    cases x4 <;> first | rfl | exact h4.elim
  obtain ⟨d1, p1, o1, hd1, P1⟩ := one_call (s := sBg p L x2 x3 (.fz (.int 0)) x5) (j := 0) (p := p) (a := mLst (mCons (mStr "a") (mCons (mStr "b") (mCons (mStr "x") mNil)))) (ds := uNs) rfl P (by omega) (by kernel_rfl) (by decide) (by decide)
  obtain ⟨d2, p2, o2, hd2, P2⟩ := one_call (s := sBg p1 L x2 x3 (.fz (.int 1)) x5) (j := 0) (p := p1) (a := mLst (mCons (mStr "a") (mCons (mStr "b") (mCons (mStr "x") mNil)))) (ds := uNs) rfl P1 (by omega) (by kernel_rfl) (by decide) (by decide)
  obtain ⟨u, hu, rfl⟩ := List.mem_map.mp hd1
  obtain ⟨v, hv, rfl⟩ := List.mem_map.mp hd2
  refine ⟨u, v, p2, ?_, hu, hv, P2⟩
  have ei : itR1 (mCons (mC (.int 2)) mNil) (sBg p L x2 x3 x4 x5) = some ([.int 0, .int 1], sBg p L x2 x3 x4 x5) := by kernel_rfl
  have el : lcM (tgN 4) mYes mOne3 [4] [.int 0, .int 1] (sBg p L x2 x3 .no x5) [] = some ([.str u, .str v], sBg p2 L x2 x3 .no x5) := by
    rw [lcM_one (s1 := sBg p L x2 x3 (.fz (.int 0)) x5) (tg_at rfl) o1 (by decide)]
    show lcM (tgN 4) mYes mOne3 [4] [.int 1] (sBg p1 L x2 x3 .no x5) [.str u] = _
    rw [lcM_one (d := .int 1) (acc := [.str u]) (s := sBg p1 L x2 x3 .no x5) (s1 := sBg p1 L x2 x3 (.fz (.int 1)) x5) (tg_at rfl) o2 (show 1 < 100000 by decide)]
    rfl
  unfold mEnds mLc
  rw [ei]
  simp only [Option.bind_some]
  rw [if_pos hno]
  show ((lcM (tgN 4) mYes mOne3 [4] [.int 0, .int 1] (sBg p L x2 x3 .no x5) []).map _) = _
  rw [el]
  rfl
theorem thing_facts : (uN.all fun u => uN.all fun v => uFS.contains [("way" : PySem.Str), u, v] && uFS.contains [("p" : PySem.Str), u]) = true := by decide +kernel
theorem bag_step {p : D} {n : Nat} {L : List (List PySem.Str)} {i : Int} {x2 x3 x4 x5 : Sl} (h2 : freeS x2) (h3 : freeS x3) (h4 : freeS x4) (h5 : freeS x5) (P : POk n p) (hn : n ≤ 400) (nd : L.Nodup) (hm : ∀ xs ∈ L, xs ∈ uFS) (hl : L.length < 12) :
    ∃ p' L' y3 y5, (tgN 2 (.int i) (sBg p L x2 x3 x4 x5)).bind bBg = some (.nx, sBg p' L' (.fz (.int i)) y3 x4 y5) ∧ freeS y3 ∧ freeS y5 ∧ POk (n + 3) p' ∧ L'.Nodup ∧ (∀ xs ∈ L', xs ∈ uFS) ∧ L'.length ≤ L.length + 1 := by
  rw [tg_at (free_ok (x := x2) rfl h2), Option.bind_some]
  obtain ⟨u, v, p1, e1, hu, hv, P1⟩ := ends_at (L := L) (x2 := .fz (.int i)) (x3 := x3) (x5 := x5) h4 P (by omega)
  have s1 : mSet 3 mEnds (sBg p L (.fz (.int i)) x3 x4 x5) = some (.nx, sBg p1 L (.fz (.int i)) (.fz (.lst [.str u, .str v])) x4 x5) := set_at2 e1 (free_ok (x := x3) rfl h3)
  obtain ⟨d, p2, o2, hd, P2⟩ := one_call (s := sBg p1 L (.fz (.int i)) (.fz (.lst [.str u, .str v])) x4 x5) (j := 0) (p := p1) (a := mLst (mCons (mTup (mCons (mStr "way") (mCons (mOp dIxW (mVar 3) (mC (.int 0))) (mCons (mOp dIxW (mVar 3) (mC (.int 1))) mNil)))) (mCons (mTup (mCons (mStr "p") (mCons (mOp dIxW (mVar 3) (mC (.int 0))) mNil))) mNil))) (ds := [tup' ["way", u, v], tup' ["p", u]]) rfl P1 (by omega) (by kernel_rfl) (Nat.zero_lt_succ _) (show 2 ≤ 1000 by decide)
  have s2 : mSet 5 mThing (sBg p1 L (.fz (.int i)) (.fz (.lst [.str u, .str v])) x4 x5) = some (.nx, sBg p2 L (.fz (.int i)) (.fz (.lst [.str u, .str v])) x4 (.fz d)) := set_at2 o2 (free_ok (x := x5) rfl h5)
  obtain ⟨xs, rfl, hxs⟩ : ∃ xs, d = tup' xs ∧ xs ∈ uFS := by
    have z := List.all_eq_true.mp (List.all_eq_true.mp thing_facts u hu) v hv
    obtain ⟨z1, z2⟩ := Bool.and_eq_true_iff.mp z
    rcases List.mem_cons.mp hd with rfl | hd
    · exact ⟨_, rfl, List.contains_iff_mem.mp z1⟩
    · rw [List.mem_singleton.mp hd]
      exact ⟨_, rfl, List.contains_iff_mem.mp z2⟩
  have fs := facts_shp (uFS_mem hxs)
  have ls : (D.lst (L.map tup')).shp = true := by
    have z : (uFacts.all fun f => f.plain && decide (f.py.depth ≤ 8)) = true := by decide +kernel
    refine shp_lst (n := 8) (fun f hf => ?_) (fun f hf => ?_) (by decide)
    · obtain ⟨ys, hy, rfl⟩ := List.mem_map.mp hf
      exact (Bool.and_eq_true_iff.mp (List.all_eq_true.mp z _ (uFS_mem (hm ys hy)))).1
    · obtain ⟨ys, hy, rfl⟩ := List.mem_map.mp hf
      exact of_decide_eq_true (Bool.and_eq_true_iff.mp (List.all_eq_true.mp z _ (uFS_mem (hm ys hy)))).2
  have t1 : mT (mInO true (mVar 5) 1) (sBg p2 L (.fz (.int i)) (.fz (.lst [.str u, .str v])) x4 (.fz (tup' xs))) = some (!((pys (L.map tup')).any fun z => PyData.eqv z (tup' xs).py), sBg p2 L (.fz (.int i)) (.fz (.lst [.str u, .str v])) x4 (.fz (tup' xs))) := by
    refine t_at2 ?_
    show (if ((tup' xs).shp && (D.lst (L.map tup')).shp) = true then some (D.bl (!((pys (L.map tup')).any fun z => PyData.eqv z (tup' xs).py)), sBg p2 L (.fz (.int i)) (.fz (.lst [.str u, .str v])) x4 (.fz (tup' xs))) else none) = _
    rw [fs, ls]
    rfl
  show ∃ p' L' y3 y5, mSeq _ _ (sBg p L (.fz (.int i)) x3 x4 x5) = _ ∧ _
  rw [seq_at s1, seq_at s2, if_at t1]
  cases hin : (pys (L.map tup')).any fun z => PyData.eqv z (tup' xs).py with
  | true => exact ⟨p2, L, _, _, rfl, trivial, trivial, P2, nd, hm, Nat.le_succ _⟩
  | false =>
    have nin : xs ∉ L := fun hx => by
      have : ((pys (L.map tup')).any fun z => PyData.eqv z (tup' xs).py) = true := by
        rw [pys_map, List.any_map, List.any_eq_true]
        exact ⟨tup' xs, List.mem_map.mpr ⟨xs, hx, rfl⟩, eqv_self _ (D.shp_plain fs)⟩
      rw [hin] at this
      cases this
    refine ⟨p2, L ++ [xs], .fz (.lst [.str u, .str v]), .fz (tup' xs), ?_, trivial, trivial, P2, ?_, fun ys hy => ?_, by rw [List.length_append]; exact Nat.le_refl _⟩
    · refine (if_pos (by rfl)).trans ?_
      unfold mApp
      show (if (L.map tup').length < 100000 then some (Out.nx, _) else none) = _
      rw [List.length_map, if_pos (by omega)]
      show some (Out.nx, sBg p2 L (.fz (.int i)) (.fz (.lst [.str u, .str v])) x4 (.fz (tup' xs)) |>.set 1 (.ow (.lst (L.map tup' ++ [tup' xs])))) = _
      unfold sBg
      rw [List.map_append]
      rfl
    · rw [List.nodup_append]
      exact ⟨nd, List.pairwise_singleton _ _, fun a ha b hb e => nin (by rw [List.mem_singleton.mp hb] at e; rw [← e]; exact ha)⟩
    · rcases List.mem_append.mp hy with w | w
      · exact hm ys w
      · rw [List.mem_singleton.mp w]; exact hxs
theorem bags_at {p : D} {n : Nat} (P : POk n p) (hn : n ≤ 200) : ∃ L p' t, phi__law_bags [.pm p] = some (stD L, .pm p' :: t) ∧ IsSt L ∧ POk (n + 20) p' := by
  have e0 : mSetO 1 (mLst mNil) [.pm p, .no, .no, .no, .no, .no] = some (.nx, sBg p [] .no .no .no .no) := rfl
  obtain ⟨k, p1, o1, k0, k1, P1⟩ := draw_call (s := sBg p [] .no .no .no .no) (j := 0) (p := p) (a := mC (.int 6)) (r := 6) rfl P (by omega) rfl (by decide) (by decide)
  have ei : itR1 (mCons (mCallG 2 phi__law_draw (mGV 0 (mGD (mC (.int 6)) mGNil))) mNil) (sBg p [] .no .no .no .no) = some (rangeD 0 k.toNat, sBg p1 [] .no .no .no .no) := by
    unfold itR1
    rw [cons_at2 o1 (r := mNil) (ds := []) rfl]
    show (if -100000 ≤ k ∧ k ≤ 100000 then some (rangeD 0 k.toNat, _) else none) = _
    rw [if_pos (by omega)]
    rfl
  obtain ⟨s2, r1, q, L, y2, y3, y4, y5, rfl, h2, h3, h4, h5, Q, nd, hm, hl⟩ := loop_at (f := fun d s => (tgN 2 d s).bind bBg) (ds := rangeD 0 k.toNat) (P := fun pre s => ∃ q L y2 y3 y4 y5, s = sBg q L y2 y3 y4 y5 ∧ freeS y2 ∧ freeS y3 ∧ freeS y4 ∧ freeS y5 ∧ POk (n + 1 + 3 * pre.length) q ∧ L.Nodup ∧ (∀ xs ∈ L, xs ∈ uFS) ∧ L.length ≤ pre.length) [] (fun a d b z s ⟨q, L, y2, y3, y4, y5, es, h2, h3, h4, h5, Q, nd, hm, hl⟩ => by
    have hd : d ∈ rangeD 0 k.toNat := by
      rw [List.nil_append] at z
      rw [z]
      exact List.mem_append_right _ List.mem_cons_self
    have hlen : a.length < 5 := by
      have y := congrArg List.length z
      rw [List.nil_append, List.length_append, List.length_cons] at y
      unfold rangeD at y
      rw [List.length_map, List.length_range] at y
      omega
    unfold rangeD at hd
    obtain ⟨i, _, rfl⟩ := List.mem_map.mp hd
    obtain ⟨q', L', z3, z5, e, f3, f5, Q', nd', hm', hl'⟩ := bag_step (i := 0 + (i : Int)) h2 h3 h4 h5 Q (by omega) nd hm (by omega)
    subst es
    exact ⟨.nx, _, e, .inl rfl, q', L', .fz (.int (0 + (i : Int))), z3, y4, z5, rfl, trivial, f3, h4, f5, Q'.mono (by rw [List.length_append, List.length_singleton]; omega), nd', hm', by rw [List.length_append, List.length_singleton]; omega⟩) (s := sBg p1 [] .no .no .no .no) ⟨p1, [], .no, .no, .no, .no, rfl, trivial, trivial, trivial, trivial, P1, List.nodup_nil, fun xs h => (nomatch h), Nat.le_refl _⟩
  have hlen : ([] ++ rangeD 0 k.toNat).length ≤ 5 := by
    unfold rangeD
    rw [List.nil_append, List.length_map, List.length_range]
    omega
  have e1 : mFor (itR1 (mCons (mCallG 2 phi__law_draw (mGV 0 (mGD (mC (.int 6)) mGNil))) mNil)) (tgN 2) bBg (sBg p [] .no .no .no .no) = some (.nx, sBg q L y2 y3 y4 y5) := by
    unfold mFor
    rw [ei]
    exact r1
  have em : m__law_bags [.pm p, .no, .no, .no, .no, .no] = some (.ret (stD L), [.pm q, .fz (stD L), y2, y3, y4, y5]) := by
    unfold m__law_bags
    rw [seq_at e0, seq_at e1]
    rfl
  refine ⟨L, q, [], ?_, ⟨nd, by omega, hm⟩, Q.mono (by omega)⟩
  unfold phi__law_bags runDefG
  show ((m__law_bags [.pm p, .no, .no, .no, .no, .no]).bind _) = _
  rw [em]
  rfl
end K12

set_option Elab.async false
set_option linter.all false
set_option maxRecDepth 100000
set_option maxHeartbeats 400000
set_option synthInstance.maxHeartbeats 0
set_option synthInstance.maxSize 100000
namespace K12
open PySem PySem.Spec PyProof.Rows L2 NE He Evl Fr
structure TxtL (K : PySem.W.Frag) (mg : PySem.Str → Option Value) : Prop extends Txt K mg where
  fr_max : mg "max" = none
  fr_min : mg "min" = none
  gl__law_bags : mg "_law_bags" = some (.ref (ga K "_law_bags"))
  gl__law_made_right : mg "_law_made_right" = some (.ref (ga K "_law_made_right"))
  gl__law_parts : mg "_law_parts" = some (.ref (ga K "_law_parts"))
  gl__law_purse : mg "_law_purse" = some (.ref (ga K "_law_purse"))
  gl__law_purses : mg "_law_purses" = some (.ref (ga K "_law_purses"))
  gl_best_order : mg "best_order" = some (.ref (ga K "best_order"))
  gl_count_matches : mg "count_matches" = some (.ref (ga K "count_matches"))
  gl_law : mg "law" = some (.ref (ga K "law"))
  gl_matches_with : mg "matches_with" = some (.ref (ga K "matches_with"))
  gl_partials : mg "partials" = some (.ref (ga K "partials"))
  gl_variables : mg "variables" = some (.ref (ga K "variables"))
abbrev Fd__law_purse (K : PySem.W.Frag) (fd : FuncData) : Prop := FunD K "_law_purse" "_law_purse" (defArgs d_g_law_purse.st) (defBody d_g_law_purse.st) (defScope d_g_law_purse.st) [] [] (ga K "_law_purse") fd
abbrev Fd__law_purses (K : PySem.W.Frag) (fd : FuncData) : Prop := FunD K "_law_purses" "_law_purses" (defArgs d_g_law_purses.st) (defBody d_g_law_purses.st) (defScope d_g_law_purses.st) [] [] (ga K "_law_purses") fd
abbrev Fd_law (K : PySem.W.Frag) (fd : FuncData) : Prop := FunD K "law" "law" (defArgs d_g_law.st) (defBody d_g_law.st) (defScope d_g_law.st) [] [] (ga K "law") fd
abbrev N_law : List PySem.Str := ["_law_script", "_law_purse_here", "_law_body", "_law_gaps", "_law_bars", "_law_tops", "_law_some", "_law_query", "_law_thing"]
theorem sc_law : FnScope N_law ["_law_script"] (defScope d_g_law.st) := ⟨rfl, rfl, rfl, by decide +kernel, rfl, by decide +kernel, by decide +kernel⟩
def m_body : MS := (mSeq (mAsgG (tg3l (tgN 2) (tgN 3) (tgN 4)) (mCallG 1 phi__law_parts (mGV 1 mGNil))) (mSeq (mPar 5 6 (mCons (mSl (mLst (mCons (mStr "X") (mCons (mStr "Y") mNil))) mNo (mPart (mCallG 2 phi__law_draw (mGV 1 (mGD (mC (.int 3)) mGNil))))) (mCons (mCallG 1 phi__law_bags (mGV 1 mGNil)) mNil))) (mSeq (mSet 7 (objM (mMake "Question" 4 phi_Question_init [] (mGD (mVar 5) (mGD (mVar 2) (mGD (mVar 3) mGNil)))))) (mSeq (mIfS (mOr (mT (mOp dNeW (mCallW 1 1 phi_variables [0] (mGD (mVar 7) mGNil)) (mCallG 1 phi_variables (mGD (mVar 7) mGNil)))) (mT (mOp dNeW (mCallW 2 2 phi_matches [1, 0] (mGD (mVar 6) (mGD (mVar 7) mGNil))) (mCallG 2 phi_matches (mGD (mVar 7) (mGD (mVar 6) mGNil)))))) (mRet (mC (.bl false))) mSkip) (mSeq (mIfS (mT (mOp dNeW (mCallW 2 2 phi_count_matches [1, 0] (mGD (mVar 6) (mGD (mVar 7) mGNil))) (mCallG 2 phi_count_matches (mGD (mVar 7) (mGD (mVar 6) mGNil))))) (mRet (mC (.bl false))) mSkip) (mSeq (mIfS (mT (mOp dNeW (mCallW 2 2 phi_partials [1, 0] (mGD (mVar 6) (mGD (mVar 7) mGNil))) (mCallG 2 phi_partials (mGD (mVar 7) (mGD (mVar 6) mGNil))))) (mRet (mC (.bl false))) mSkip) (mSeq (mIfS (mT (mOp dNeW (mCallW 2 2 phi_best_order [1, 0] (mGD (mVar 6) (mGD (mVar 7) mGNil))) (mCallG 2 phi_best_order (mGD (mVar 7) (mGD (mVar 6) mGNil))))) (mRet (mC (.bl false))) mSkip) (mSeq (mFor (itL (mSl (mVar 6) mNo (mPart (mC (.int 2))))) (tgN 8) (mIfS (mT (mOp dNeW (mCallW 3 3 phi_matches_with [2, 1, 0] (mGD (mVar 8) (mGD (mVar 6) (mGD (mVar 7) mGNil)))) (mCallG 3 phi_matches_with (mGD (mVar 7) (mGD (mVar 6) (mGD (mVar 8) mGNil)))))) (mRet (mC (.bl false))) mSkip)) (mIfS (mNot (mT (mCallG 4 phi__law_made_right (mGD (mVar 2) (mGD (mVar 3) (mGD (mVar 4) (mGD (mVar 5) mGNil))))))) (mRet (mC (.bl false))) mSkip)))))))))
end K12

set_option Elab.async false
set_option linter.all false
set_option maxRecDepth 100000
set_option maxHeartbeats 400000
namespace Fr
open PySem PySem.Spec PyProof.Rows L2 NE He Evl
theorem same_at {a b : M} {s : S} {d : D} (ha : a s = some (d, s)) (hb : b s = some (d, s)) (hs : d.shp = true) : mT (mOp dNeW a b) s = some (false, s) := t_at2 (op_at ha hb (neW_self hs))
theorem ifS_no {t : MT} {a : MS} {s : S} (h : t s = some (false, s)) : mIfS t a mSkip s = some (.nx, s) := by
  rw [if_at h]
  rfl
theorem par_at {i j : Nat} {a : MA} {s s1 : S} {x y : D} (ha : a s = some ([x, y], s1)) (hi : setOk s1 i = true) (hj : setOk (s1.set i (.fz x)) j = true) : mPar i j a s = some (.nx, (s1.set i (.fz x)).set j (.fz y)) := by
  unfold mPar
  rw [ha]
  simp only [Option.bind_some]
  rw [if_pos hi, if_pos hj]
end Fr
namespace K12
open PySem PySem.Spec PyProof.Rows L2 NE He Evl Fr
def sLw (p : D) (x2 x3 x4 x5 x6 x7 x8 : Sl) : S := [.no, .ow p, x2, x3, x4, x5, x6, x7, x8]
theorem make_all : allQ (fun t b g => match phi_Question_init [.pm (.obj "Question" [] []), .fz (.lst t), .fz (.lst b), .fz (.lst g)] with
  | some (.non, .pm d :: _) => sameD d (qOf t b g)
  | _ => false) = true := by decide +kernel
theorem make_q {t b g : List D} (ht : t ∈ uTops) (hb : b ∈ uBodies) (hg : g ∈ uGs) : ∃ z, phi_Question_init [.pm (.obj "Question" [] []), .fz (.lst t), .fz (.lst b), .fz (.lst g)] = some (.non, .pm (qOf t b g) :: z) := by
  have y := allQ_at make_all ht hb hg
  split at y
  · rename_i d z e
    exact ⟨z, by rw [e, sameD_eq y]⟩
  · cases y
theorem made_at {t b g : List D} {r : D} (ht : t ∈ uTops) (hb : b ∈ uBodies) (hg : g ∈ uGs) (hr : r ∈ barss) : ∃ z, phi__law_made_right [.fz (.lst b), .fz (.lst g), .fz r, .fz (.lst t)] = some (.bl true, z) := by
  have h1 : D.lst b ∈ bodies := by
    have z : (uBodies.all fun b => among bodies (.lst b)) = true := by decide +kernel
    exact among_mem (List.all_eq_true.mp z b hb)
  have h2 : D.lst g ∈ gapss := by
    have z : (uGs.all fun b => among gapss (.lst b)) = true := by decide +kernel
    exact among_mem (List.all_eq_true.mp z g hg)
  have h3 : D.lst t ∈ topss := by
    have z : (uTops.all fun b => among topss (.lst b)) = true := by decide +kernel
    exact among_mem (List.all_eq_true.mp z t ht)
  have y := List.all_eq_true.mp (made_right _ h1 _ h2 r hr) _ h3
  unfold yesD at y
  split at y
  · rename_i z e
    exact ⟨z, e⟩
  · cases y
theorem body_at {p : D} {n : Nat} (P : POk n p) (hn : n ≤ 100) : ∃ s', m_body (sLw p .no .no .no .no .no .no .no) = some (.nx, s') ∧ s'.length = 9 := by
  obtain ⟨b, g, r, p1, z1, k1, hb, hg, hr, P1⟩ := parts_at P (by omega)
  have e1 : mAsgG (tg3l (tgN 2) (tgN 3) (tgN 4)) (mCallG 1 phi__law_parts (mGV 1 mGNil)) (sLw p .no .no .no .no .no .no .no) = some (.nx, sLw p1 (.fz (.lst b)) (.fz (.lst g)) (.fz r) .no .no .no .no) :=
    asgG_at (s1 := sLw p1 .no .no .no .no .no .no .no) (pcall_at (ds := []) (p := p) rfl gn_data rfl k1) rfl
  obtain ⟨k, p2, o2, k0, k3, P2⟩ := draw_call (s := sLw p1 (.fz (.lst b)) (.fz (.lst g)) (.fz r) .no .no .no .no) (j := 1) (p := p1) (a := mC (.int 3)) (r := 3) rfl P1 (by omega) rfl (by decide) (by decide)
  obtain ⟨t, x2, ht⟩ := top_cut k0 k3
  obtain ⟨L, p3, z3, k4, T, P3⟩ := bags_at P2 (by omega)
  have e2 : mPar 5 6 (mCons (mSl (mLst (mCons (mStr "X") (mCons (mStr "Y") mNil))) mNo (mPart (mCallG 2 phi__law_draw (mGV 1 (mGD (mC (.int 3)) mGNil))))) (mCons (mCallG 1 phi__law_bags (mGV 1 mGNil)) mNil)) (sLw p1 (.fz (.lst b)) (.fz (.lst g)) (.fz r) .no .no .no .no) = some (.nx, sLw p3 (.fz (.lst b)) (.fz (.lst g)) (.fz r) (.fz (.lst t)) (.fz (stD L)) .no .no) :=
    par_at (s1 := sLw p3 (.fz (.lst b)) (.fz (.lst g)) (.fz r) .no .no .no .no) (cons_at2 (s1 := sLw p2 (.fz (.lst b)) (.fz (.lst g)) (.fz r) .no .no .no .no) (sl_at2 (d := fullT) (s1 := sLw p1 (.fz (.lst b)) (.fz (.lst g)) (.fz r) .no .no .no .no) (s2 := sLw p1 (.fz (.lst b)) (.fz (.lst g)) (.fz r) .no .no .no .no) (l := none) (h := some k) (by kernel_rfl) rfl (part_at2 o2) x2) (cons_at2 (pcall_at (ds := []) (p := p2) rfl gn_data rfl k4) rfl)) rfl rfl
  obtain ⟨z4, k5⟩ := make_q ht hb hg
  have e3 : mSet 7 (objM (mMake "Question" 4 phi_Question_init [] (mGD (mVar 5) (mGD (mVar 2) (mGD (mVar 3) mGNil))))) (sLw p3 (.fz (.lst b)) (.fz (.lst g)) (.fz r) (.fz (.lst t)) (.fz (stD L)) .no .no) = some (.nx, sLw p3 (.fz (.lst b)) (.fz (.lst g)) (.fz r) (.fz (.lst t)) (.fz (stD L)) (.fz (qOf t b g)) .no) :=
    set_at (d := qOf t b g) (obj_at (make_at (dfl := []) (ds := [.lst t, .lst b, .lst g]) (gd_data (ds := [.lst b, .lst g]) (var_at rfl) (gd_data (ds := [.lst g]) (var_at rfl) (gd_data (ds := []) (var_at rfl) gn_data))) rfl k5)) rfl
  have Q : IsQ (qOf t b g) b g := ⟨⟨t, ht, rfl⟩, hb, hg⟩
  obtain ⟨s3, hs3⟩ : ∃ s3, s3 = sLw p3 (.fz (.lst b)) (.fz (.lst g)) (.fz r) (.fz (.lst t)) (.fz (stD L)) (.fz (qOf t b g)) .no := ⟨_, rfl⟩
  have v5 : mVar 5 s3 = some (.lst t, s3) := by rw [hs3]; rfl
  have v2 : mVar 2 s3 = some (.lst b, s3) := by rw [hs3]; rfl
  have v3 : mVar 3 s3 = some (.lst g, s3) := by rw [hs3]; rfl
  have v6 : mVar 6 s3 = some (stD L, s3) := by rw [hs3]; rfl
  have v7 : mVar 7 s3 = some (qOf t b g, s3) := by rw [hs3]; rfl
  obtain ⟨vs, y1, w1, vsh⟩ := q_vars Q
  have c1 : mT (mOp dNeW (mCallW 1 1 phi_variables [0] (mGD (mVar 7) mGNil)) (mCallG 1 phi_variables (mGD (mVar 7) mGNil))) s3 = some (false, s3) :=
    same_at (d := .lst vs) (callW_at (ds := [qOf t b g]) (es := [qOf t b g]) (gd_data (ds := []) v7 gn_data) rfl rfl rfl w1) (call_data (np := 1) (ds := [qOf t b g]) (gd_data (ds := []) v7 gn_data) rfl w1) vsh
  have two : ∀ {Φ : S → Option (D × S)} {d : D} {y : S}, Φ [.fz (qOf t b g), .fz (stD L)] = some (d, y) → d.shp = true → mT (mOp dNeW (mCallW 2 2 Φ [1, 0] (mGD (mVar 6) (mGD (mVar 7) mGNil))) (mCallG 2 Φ (mGD (mVar 7) (mGD (mVar 6) mGNil)))) s3 = some (false, s3) := fun {Φ d y} w h =>
    same_at (callW_at (ds := [stD L, qOf t b g]) (es := [qOf t b g, stD L]) (gd_data (ds := [qOf t b g]) v6 (gd_data (ds := []) v7 gn_data)) rfl rfl rfl w) (call_data (np := 2) (ds := [qOf t b g, stD L]) (gd_data (ds := [stD L]) v7 (gd_data (ds := []) v6 gn_data)) rfl w) h
  obtain ⟨rs, y2, w2, h2⟩ := matches_at Q T
  have c2 := two w2 (rows_shp h2)
  obtain ⟨m, y3, w3⟩ := count_at Q T
  have c3 := two w3 (show (D.int m).shp = true from rfl)
  obtain ⟨ns, y4, w4, h4⟩ := partials_at Q T
  have c4 := two w4 (ints_shp h4)
  obtain ⟨bo, y5, w5, h5⟩ := best_at Q T
  have c5 := two w5 h5
  have sl : mSl (mVar 6) mNo (mPart (mC (.int 2))) s3 = some (.lst (Fr.cutD (L.map tup') none (some 2)), s3) := sl_at (d := stD L) v6 (l := none) rfl (h := some 2) rfl rfl
  obtain ⟨s4, r4, x8, hs4, f8⟩ := loop_inv (f := fun d s => (tgN 8 d s).bind (mIfS (mT (mOp dNeW (mCallW 3 3 phi_matches_with [2, 1, 0] (mGD (mVar 8) (mGD (mVar 6) (mGD (mVar 7) mGNil)))) (mCallG 3 phi_matches_with (mGD (mVar 7) (mGD (mVar 6) (mGD (mVar 8) mGNil)))))) (mRet (mC (.bl false))) mSkip)) (ds := Fr.cutD (L.map tup') none (some 2)) (P := fun s => ∃ x8, s = sLw p3 (.fz (.lst b)) (.fz (.lst g)) (.fz r) (.fz (.lst t)) (.fz (stD L)) (.fz (qOf t b g)) x8 ∧ freeS x8) (fun f hf s ⟨x8, es, f8⟩ => by
    have hu : f ∈ uFacts := by
      obtain ⟨xs, hx, rfl⟩ := List.mem_map.mp (cut_sub f hf)
      exact uFS_mem (T.mem xs hx)
    obtain ⟨ws, y6, w6, h6⟩ := with_at Q T hu
    refine ⟨.nx, sLw p3 (.fz (.lst b)) (.fz (.lst g)) (.fz r) (.fz (.lst t)) (.fz (stD L)) (.fz (qOf t b g)) (.fz f), ?_, .inl rfl, .fz f, rfl, trivial⟩
    rw [es, tg_at (free_ok (x := x8) rfl f8), Option.bind_some]
    exact ifS_no (s := sLw p3 (.fz (.lst b)) (.fz (.lst g)) (.fz r) (.fz (.lst t)) (.fz (stD L)) (.fz (qOf t b g)) (.fz f)) (same_at (d := .lst ws) (callW_at (ds := [f, stD L, qOf t b g]) (es := [qOf t b g, stD L, f]) (gd_data (ds := [stD L, qOf t b g]) (var_at rfl) (gd_data (ds := [qOf t b g]) (var_at rfl) (gd_data (ds := []) (var_at rfl) gn_data))) rfl rfl rfl w6) (call_data (np := 3) (ds := [qOf t b g, stD L, f]) (gd_data (ds := [stD L, f]) (var_at rfl) (gd_data (ds := [f]) (var_at rfl) (gd_data (ds := []) (var_at rfl) gn_data))) rfl w6) (rows_shp h6))) (s := s3) ⟨.no, hs3, trivial⟩
  have e4 : mFor (itL (mSl (mVar 6) mNo (mPart (mC (.int 2))))) (tgN 8) (mIfS (mT (mOp dNeW (mCallW 3 3 phi_matches_with [2, 1, 0] (mGD (mVar 8) (mGD (mVar 6) (mGD (mVar 7) mGNil)))) (mCallG 3 phi_matches_with (mGD (mVar 7) (mGD (mVar 6) (mGD (mVar 8) mGNil)))))) (mRet (mC (.bl false))) mSkip) s3 = some (.nx, s4) := by
    unfold mFor
    rw [itL_at sl rfl]
    exact r4
  obtain ⟨z7, w7⟩ := made_at ht hb hg hr
  have c7 : mNot (mT (mCallG 4 phi__law_made_right (mGD (mVar 2) (mGD (mVar 3) (mGD (mVar 4) (mGD (mVar 5) mGNil)))))) s4 = some (false, s4) := by
    rw [hs4]
    exact not_at (t_at2 (call_data (np := 4) (ds := [.lst b, .lst g, r, .lst t]) (gd_data (ds := [.lst g, r, .lst t]) (var_at rfl) (gd_data (ds := [r, .lst t]) (var_at rfl) (gd_data (ds := [.lst t]) (var_at rfl) (gd_data (ds := []) (var_at rfl) gn_data)))) rfl w7))
  refine ⟨s4, ?_, by rw [hs4]; rfl⟩
  unfold m_body
  rw [seq_at e1, seq_at e2, seq_at e3, ← hs3, seq_at (ifS_no ((or_no c1).trans c2)), seq_at (ifS_no c3), seq_at (ifS_no c4), seq_at (ifS_no c5), seq_at e4]
  exact ifS_no c7
end K12

set_option Elab.async false
set_option linter.all false
set_option maxRecDepth 100000
set_option maxHeartbeats 1000000
namespace K12
open PySem PySem.Spec PyProof.Rows L2 NE He Evl Fr
section
variable {w : World} {K : PySem.W.Frag} {mg : PySem.Str → Option Value} {base : Heap}
def Prs (p0 p1 p2 p3 : Int) : HO := .lst [.int p0, .int p1, .int p2, .int p3]
theorem rv_addU {i j : Int} {H : Hp} : RV (U.rAdd K) (.int i) (.int j) H (.int (i + j)) := fun H1 _ _ q => .inl ⟨i, j, rfl, rfl, q H1 (Ex.refl H1)⟩
theorem rv_modU {i j : Int} {H : Hp} (h : 0 < j) : RV (rI (fun _ j => 0 < j) fun i j => .int (i % j)) (.int i) (.int j) H (.int (i % j)) := rv_I h
theorem md {i m : Int} (h : 0 < m) : 0 ≤ i % m ∧ i % m < m := ⟨Int.emod_nonneg _ (by omega), Int.emod_lt_of_pos _ h⟩
/-! ### _law_purse, _law_purses -/
def spPurse (K : PySem.W.Frag) : Sp := fun vs H Q _ => ∃ (s : Addr) (ns : List Int) (at_ : Int), vs = [.ref s, .int at_] ∧ SqL K H s (ns.map V.int) ∧ 0 ≤ at_ ∧ at_ < 1000 ∧
  ∀ (q0 q1 : Int) (p : Addr) (H' : Hp), 0 ≤ q0 → 0 ≤ q1 → q1 < 4294967296 → H p = none → Ex H H' → H' p = some (Prs q0 q1 0 at_) → Q (.ref p) H'
abbrev N__law_purse : List PySem.Str := ["_law_script", "_law_at", "_law_seed"]
theorem sc__law_purse : FnScope N__law_purse ["_law_script", "_law_at"] (defScope d_g_law_purse.st) := ⟨rfl, rfl, rfl, by decide +kernel, rfl, by decide +kernel, by decide +kernel⟩
theorem el_slU {σ : L2.St} {H : Hp} {te : TE} {tl th : TO} {a : Addr} {xs : List V} {lo hi : Option Int} (h : Ev te σ H (.ref a)) (h1 : EvO tl σ H lo) (h2 : EvO th σ H hi) (hs : SqL K H a xs) : EvL (tSl (U.rSlU K) te tl th) σ H (cutV xs lo hi) := fun H1 e Q q =>
  h H1 e _ fun H2 e2 => h1 H2 (e.trans e2) _ fun H3 e3 => h2 H3 ((e.trans e2).trans e3) _ fun H4 e4 => .inl ⟨a, xs, rfl, ex_l (((e.trans e2).trans e3).trans e4) hs, fun p hp => q p _ (fresh_back ((e2.trans e3).trans e4) hp) (((e2.trans e3).trans e4).trans (Ex.new hp)) upd_same⟩
theorem ok__law_purse (T : TxtL K mg) {fd : FuncData} (F : Fd__law_purse K fd) : FnOk PP w K mg base CX0 1 (ga K "_law_purse") fd ["_law_script", "_law_at"] (spPurse K) := by
  refine F.ok sc__law_purse (fun vs H Q E h => by obtain ⟨a, b, c, rfl, _⟩ := h; rfl) fun cdv A outer s H vs Q E hr h => ?_
  refine ⟨_, pss_cons (ps_set (i := 2) sc__law_purse.nd rfl (by first | exact Or.inl rfl | exact Or.inr rfl) (pe_callB (UK.c_sum K) rfl T.fr_sum U.bo_sum (pa_cons (pe_slice (UK.sl K) (pv 0) (po_some (pv 1)) (po_some (pe_op (UK.add K) (pv 1) pe_int))) pa_nil)))
    (pss_one (ps_ret (pe_lst (pa_cons (pe_op U.mod (pe_callB U.c_max rfl T.fr_max U.bo_max (pa_cons (pe_op U.sub (pv 2) (pe_op Fr.W.pow pe_int pe_int)) (pa_cons pe_int pa_nil))) (pe_op Fr.W.pow (pe_op Fr.W.pow pe_int pe_int) pe_int))
      (pa_cons (pe_op U.mod (pv 2) pe_int) (pa_cons pe_int (pa_cons (pv 1) pa_nil))))))), ?_⟩
  obtain ⟨sc, ns, at_, rfl, hs, a0, a1, q⟩ := h
  have ci : cutV (ns.map V.int) (some at_) (some (at_ + 1)) = ((ns.drop (HT.sIx (ns.map V.int).length 0 (some at_))).take (HT.sIx (ns.map V.int).length (ns.map V.int).length (some (at_ + 1)) - HT.sIx (ns.map V.int).length 0 (some at_))).map V.int := by
    unfold cutV
    rw [List.map_take, List.map_drop]
  generalize (ns.drop (HT.sIx (ns.map V.int).length 0 (some at_))).take (HT.sIx (ns.map V.int).length (ns.map V.int).length (some (at_ + 1)) - HT.sIx (ns.map V.int).length 0 (some at_)) = ms at ci
  have L1 : EvL (tSl (U.rSlU K) (tVar 0) (tPart (tVar 1)) (tPart (tOp (U.rAdd K) (tVar 1) (tC (.int 1))))) [some (.ref sc), some (.int at_), none] H (cutV (ns.map V.int) (some at_) (some (at_ + 1))) := el_slU (ev_var rfl) (eo_some (ev_var rfl)) (eo_some (ev_op (ev_var (v := .int at_) rfl) ev_c rv_addU)) hs
  rw [ci] at L1
  have S1 : Ev (tCB (rSum K) (tCons (tSl (U.rSlU K) (tVar 0) (tPart (tVar 1)) (tPart (tOp (U.rAdd K) (tVar 1) (tC (.int 1))))) tNil)) [some (.ref sc), some (.int at_), none] H (.int ms.sum) := fun H1 e Q q => L1 H1 e _ fun p H2 hp e2 h2 => ⟨p, ms, rfl, sq_of h2, q H2 e2⟩
  refine q_asg S1 fun H1 e1 => ?_
  generalize ms.sum = sd
  have mp : (0 : Int) < (10 ^ (60 : Int).toNat) ^ (8 : Int).toNat := by decide +kernel
  have m1 := Int.emod_nonneg (if (0 : Int) > sd - 10 ^ (18 : Int).toNat then 0 else sd - 10 ^ (18 : Int).toNat) (Int.ne_of_gt mp)
  have m2 := md (i := sd) (m := 2147483629) (by decide)
  refine s_retL (xs := [.int ((if (0 : Int) > sd - 10 ^ (18 : Int).toNat then 0 else sd - 10 ^ (18 : Int).toNat) % ((10 ^ (60 : Int).toNat) ^ (8 : Int).toNat)), .int (sd % 2147483629), .int 0, .int at_]) (el_lst (ea_cons (ev_op (z := .int ((if (0 : Int) > sd - 10 ^ (18 : Int).toNat then 0 else sd - 10 ^ (18 : Int).toNat) % ((10 ^ (60 : Int).toNat) ^ (8 : Int).toNat))) (ev_cb (z := .int (if (0 : Int) > sd - 10 ^ (18 : Int).toNat then 0 else sd - 10 ^ (18 : Int).toNat)) (ea_cons (ev_op (ev_var (v := .int sd) rfl) (ev_op ev_c ev_c (rv_I (by decide +kernel))) rv_I0) (ea_cons ev_c ea_nil)) (fun H2 e Q q => ⟨_, _, rfl, q H2 (Ex.refl H2)⟩))
      (ev_op (ev_op ev_c ev_c (rv_I (by decide +kernel))) ev_c (rv_I (by decide +kernel))) (rv_modU mp)) (ea_cons (ev_op (ev_var (v := .int sd) rfl) ev_c (rv_modU (by decide))) (ea_cons ev_c (ea_cons (ev_var rfl) ea_nil)))) (show 4 ≤ 100000 by decide)) fun p H2 hp e2 h2 => ?_
  exact q _ _ p H2 m1 m2.1 (by omega) (fresh_back e1 hp) (e1.trans e2) h2
def spPurses (K : PySem.W.Frag) : Sp := fun vs H Q _ => ∃ (s : Addr) (ns : List Int), vs = [.ref s, .int 6] ∧ ns.length ≤ 1000000 ∧ SqL K H s (ns.map V.int) ∧
  ∀ (ps : List Addr) (L : Addr) (H' : Hp), H L = none → H' L = some (.lst (ps.map V.ref)) → L ∉ ps → ps.Nodup → ps.length ≤ 6 → (∀ p ∈ ps, H p = none ∧ ∃ q0 q1 q3, H' p = some (Prs q0 q1 0 q3) ∧ 0 ≤ q0 ∧ (0 ≤ q1 ∧ q1 < 4294967296) ∧ (0 ≤ q3 ∧ q3 < 4294967296)) → Ex H H' → Q (.ref L) H'
abbrev N__law_purses : List PySem.Str := ["_law_script", "_law_few", "_law_at"]
theorem sc__law_purses : FnScope N__law_purses ["_law_script", "_law_few"] (defScope d_g_law_purses.st) := ⟨rfl, rfl, rfl, by decide +kernel, rfl, by decide +kernel, by decide +kernel⟩
theorem ok__law_purses (T : TxtL K mg) {fd : FuncData} (F : Fd__law_purses K fd) {fd_p : FuncData} (F_p : Fd__law_purse K fd_p) (G_p : FnOk PP w K mg base CX0 1 (ga K "_law_purse") fd_p ["_law_script", "_law_at"] (spPurse K)) : FnOk PP w K mg base CX0 2 (ga K "_law_purses") fd ["_law_script", "_law_few"] (spPurses K) := by
  have b_p : Binds K fd_p ["_law_script", "_law_at"] [] := F_p.bindsN fun _ _ _ _ _ _ us hl => match us, hl with | [_, _], _ => rfl
  refine F.ok sc__law_purses (fun vs H Q E h => by obtain ⟨a, b, rfl, _⟩ := h; rfl) fun cdv A outer s H vs Q E hr h => ?_
  refine ⟨_, pss_one (ps_ret (pe_lc (own := [("_law_at", 2)]) rfl sc__law_purses.nd (pi_range1 rfl T.fr_range (pa_cons (pe_callB U.c_max rfl T.fr_max U.bo_max (pa_cons pe_int (pa_cons (pe_callB (call_min2 rfl) rfl T.fr_min U.bo_min (pa_cons (pv 1) (pa_cons (pe_callB (UK.c_len K) rfl T.fr_len U.bo_len (pa_cons (pv 0) pa_nil)) pa_nil))) pa_nil))) pa_nil))
    (blkOk_by (by kernel_rfl)) (fun _ _ _ _ _ => (pg_name (i := 2) sc__law_purses.nd rfl (by first | exact Or.inl rfl | exact Or.inr rfl))) (fun _ _ _ _ _ => pts_nil) (fun _ _ _ _ _ => pe_call G_p (hr.mono (by decide)) rfl T.gl__law_purse F_p.kp b_p .nil pass0 (pa_cons (pv 0) (pa_cons (pv 2) pa_nil))))), ?_⟩
  obtain ⟨sc, ns, rfl, hn, hs, q⟩ := h
  have M1 : Ev (tCB (fun xs H Q => ∃ i j, xs = [.int i, .int j] ∧ Q (.int (if j > i then j else i)) H) (tCons (tC (.int 1)) (tCons (tCB (fun xs H Q => ∃ i j, xs = [.int i, .int j] ∧ Q (.int (if j < i then j else i)) H) (tCons (tVar 1) (tCons (tCB (U.rLenU K) (tCons (tVar 0) tNil)) tNil))) tNil))) [some (.ref sc), some (.int 6), none] H
      (.int (if (if (((ns.map V.int).length : Nat) : Int) < 6 then (((ns.map V.int).length : Nat) : Int) else 6) > 1 then (if (((ns.map V.int).length : Nat) : Int) < 6 then (((ns.map V.int).length : Nat) : Int) else 6) else 1)) :=
    ev_cb (ea_cons ev_c (ea_cons (ev_cb (ea_cons (ev_var (v := .int 6) rfl) (ea_cons (ev_cb (ea_cons (ev_var (v := .ref sc) rfl) ea_nil) (fun H1 e Q q => .inl ⟨sc, ns.map V.int, rfl, .inl (ex_l e hs), q H1 (Ex.refl H1)⟩)) ea_nil)) (fun H1 e Q q => ⟨_, _, rfl, q H1 (Ex.refl H1)⟩)) ea_nil)) (fun H1 e Q q => ⟨_, _, rfl, q H1 (Ex.refl H1)⟩)
  generalize hm : (if (if (((ns.map V.int).length : Nat) : Int) < 6 then (((ns.map V.int).length : Nat) : Int) else 6) > 1 then (if (((ns.map V.int).length : Nat) : Int) < 6 then (((ns.map V.int).length : Nat) : Int) else 6) else 1) = m at M1
  have m8 : 1 ≤ m ∧ m ≤ 6 := by
    rw [← hm]
    split <;> split at * <;> omega
  unfold tRet tLc iRng1
  refine (ea_cons M1 ea_nil) H (Ex.refl H) _ fun H1 e1 => ⟨m, rfl, by omega, by omega, fun D hD => ?_⟩
  refine lc_range (lo := 0) (n := m.toNat) (fun i H' => Ex H H' ∧ ∃ ps : List Addr, ps.length = i ∧ H' D = some (.lst (ps.map V.ref)) ∧ D ∉ ps ∧ ps.Nodup ∧ ∀ p ∈ ps, H p = none ∧ ∃ q0 q1 q3, H' p = some (Prs q0 q1 0 q3) ∧ 0 ≤ q0 ∧ (0 ≤ q1 ∧ q1 < 4294967296) ∧ (0 ≤ q3 ∧ q3 < 4294967296))
    ⟨e1.trans (Ex.new hD), [], rfl, upd_same, by simp, by simp, by simp⟩ (fun i H' hi hp => ?_) fun H' hp => ?_
  · obtain ⟨x0, ps, hl, hDp, nD, nd, hps⟩ := hp
    refine ⟨rfl, ?_⟩
    unfold tYes
    dsimp only
    rw [if_pos rfl]
    refine ⟨.ref sc, rfl, .int (0 + (i : Int)), rfl, ?_⟩
    refine ⟨sc, ns, 0 + (i : Int), rfl, ex_l x0 hs, by omega, by omega, fun q0 q1 p H2 z0 z1 z2 hp e2 h2 => ⟨ps.map V.ref, e2 _ _ hDp, ?_, ?_, ps ++ [p], ?_, ?_, ?_, ?_, ?_⟩⟩
    · rw [List.length_map, hl]
      exact Nat.lt_of_le_of_lt (show i ≤ 1000 by omega) (by decide)
    · exact Ex.mut (x0.trans e2) (fresh_back e1 hD)
    · rw [List.length_append, hl]; rfl
    · rw [upd_same, List.map_append]; rfl
    · intro m
      rcases List.mem_append.mp m with m | m
      · exact nD m
      · rw [List.mem_singleton] at m
        rw [← m, hDp] at hp
        cases hp
    · rw [List.nodup_append]
      refine ⟨nd, by simp, fun x hx y hy e => ?_⟩
      rw [List.mem_singleton] at hy
      obtain ⟨_, _, _, _, w1, _⟩ := hps x hx
      rw [e, hy, hp] at w1
      cases w1
    · intro x hx
      have ne : x ≠ D := fun z => by
        rcases List.mem_append.mp hx with m | m
        · exact nD (z ▸ m)
        · rw [List.mem_singleton] at m
          rw [← m, z, hDp] at hp
          cases hp
      rcases List.mem_append.mp hx with m | m
      · obtain ⟨w0, r0, r1, r3, w1, w2⟩ := hps x m
        exact ⟨w0, r0, r1, r3, by rw [upd_ne ne]; exact e2 _ _ w1, w2⟩
      · rw [List.mem_singleton] at m
        subst m
        exact ⟨fresh_back x0 hp, q0, q1, 0 + (i : Int), by rw [upd_ne ne]; exact h2, z0, ⟨z1, z2⟩, by omega, by omega⟩
  · obtain ⟨x0, ps, hl, hDp, nD, nd, hps⟩ := hp
    exact q ps D H' (fresh_back e1 hD) hDp nD nd (by omega) hps x0

abbrev spLaw (K : PySem.W.Frag) : Sp := fun vs H Q _ => ∃ (s : Addr) (ns : List Int), vs = [.ref s] ∧ ns.length ≤ 1000000 ∧ SqL K H s (ns.map V.int) ∧ ∀ H', Q (.bl true) H'
/-- the body, from a purse alone -/
theorem body_use {t : TS} (B : EvS (ga K) t m_body) {σ : L2.St} {H : Hp} {p : Addr} {q0 q1 q3 : Int} {E : Ends} (hl : σ.length = 9) (h1 : σ[1]? = some (some (.ref p))) (hp : H p = some (Prs q0 q1 0 q3)) (g0 : 0 ≤ q0) (g1 : 0 ≤ q1 ∧ q1 < 4294967296) (g3 : 0 ≤ q3 ∧ q3 < 4294967296)
    (k : ∀ σ' H', σ'.length = 9 → (∀ b o, b ≠ p → H b = some o → H' b = some o) → E.nx σ' H') : t E σ H := by
  obtain ⟨s', e, l'⟩ := body_at (p := pu q0 q1 0 q3) (n := 0) ⟨q0, q1, 0, q3, rfl, g0, g1, ⟨Int.le_refl _, Int.le_refl _⟩, g3⟩ (Nat.zero_le _)
  have k0 : Ok (ga K) (fun _ => none) H σ (sLw (pu q0 q1 0 q3) .no .no .no .no .no .no .no) (fun _ => p) := by
    refine ⟨fun a o z => (nomatch z), by rw [hl]; rfl, fun i x z => ?_, fun i l x z c => ?_, fun i j l m x y z c z2 c2 ne => ?_, fun i x z => ?_⟩
    · match i, z with
      | n + 9, z => cases z
    · match i, z, c with
      | 0, z, c => cases z; cases c
      | 1, z, c =>
        cases z; cases c
        exact ⟨h1, rfl, [.int q0, .int q1, .int 0, .int q3], hp, .cons (.int _) (.cons (.int _) (.cons (.int _) (.cons (.int _) .nil)))⟩
      | 2, z, c => cases z; cases c
      | 3, z, c => cases z; cases c
      | 4, z, c => cases z; cases c
      | 5, z, c => cases z; cases c
      | 6, z, c => cases z; cases c
      | 7, z, c => cases z; cases c
      | 8, z, c => cases z; cases c
      | n + 9, z, c => cases z
    · have one : ∀ (i : Nat) (l : Sl) (x : D), (sLw (pu q0 q1 0 q3) .no .no .no .no .no .no .no)[i]? = some l → l.cell = some x → i = 1 := fun i l x z c => by
        match i, z, c with
        | 0, z, c => cases z; cases c
        | 1, z, c => rfl
        | 2, z, c => cases z; cases c
        | 3, z, c => cases z; cases c
        | 4, z, c => cases z; cases c
        | 5, z, c => cases z; cases c
        | 6, z, c => cases z; cases c
        | 7, z, c => cases z; cases c
        | 8, z, c => cases z; cases c
        | n + 9, z, c => cases z
      exact absurd ((one i l x z c).trans (one j m y z2 c2).symm) ne
    · match i, z with
      | n + 9, z => cases z
  refine B.run k0 e E fun F' H' σ' ad' y => k σ' H' (by rw [y.ok.len]; exact l') fun b o nb hb => ?_
  obtain ⟨z1, z2⟩ := y.step.2.2 b (by rw [hb]; exact fun z => nomatch z)
  rw [(z2 rfl fun ⟨i, l, x, _, _, e⟩ => nb e.symm).2]
  exact hb
theorem gn_use {i : Nat} {v : V} {σ : L2.St} {H : Hp} {Q : L2.St → Hp → Prop} (h : Q (σ.set i (some v)) H) : gName i v σ H Q := h
set_option synthInstance.maxHeartbeats 0
set_option synthInstance.maxSize 100000
theorem ok_law (T : TxtL K mg) {fd : FuncData} (F : Fd_law K fd) {fd_ps : FuncData} (F_ps : Fd__law_purses K fd_ps) (G_ps : FnOk PP w K mg base CX0 2 (ga K "_law_purses") fd_ps ["_law_script", "_law_few"] (spPurses K)) {fd__law_parts : FuncData} (F__law_parts : Fd__law_parts K fd__law_parts) (G__law_parts : FnOk PP w K mg base CX0 4 (ga K "_law_parts") fd__law_parts ["_law_purse_here"] (spG (ga K) 1 phi__law_parts)) {fd__law_bags : FuncData} (F__law_bags : Fd__law_bags K fd__law_bags) (G__law_bags : FnOk PP w K mg base CX0 4 (ga K "_law_bags") fd__law_bags ["_law_purse_here"] (spG (ga K) 1 phi__law_bags)) {fd__law_draw : FuncData} (F__law_draw : Fd__law_draw K fd__law_draw) (G__law_draw : FnOk PP w K mg base CX0 2 (ga K "_law_draw") fd__law_draw ["_law_purse_here", "_law_many"] (spG (ga K) 2 phi__law_draw)) {fd_Question_init : FuncData} (F_Question_init : Fd_Question_init K fd_Question_init) (G_Question_init : FnOk PP w K mg base CX0 5 (ma K (ga K "Question") "__init__") fd_Question_init ["self", "columns", "told", "pairs"] (spG (ga K) 4 phi_Question_init)) {fd_matches : FuncData} (F_matches : Fd_matches K fd_matches) (G_matches : FnOk PP w K mg base CX0 7 (ga K "matches") fd_matches ["question", "store"] (spG (ga K) 2 phi_matches)) {fd_variables : FuncData} (F_variables : Fd_variables K fd_variables) (G_variables : FnOk PP w K mg base CX0 3 (ga K "variables") fd_variables ["question"] (spG (ga K) 1 phi_variables)) {fd_count_matches : FuncData} (F_count_matches : Fd_count_matches K fd_count_matches) (G_count_matches : FnOk PP w K mg base CX0 8 (ga K "count_matches") fd_count_matches ["question", "store"] (spG (ga K) 2 phi_count_matches)) {fd_partials : FuncData} (F_partials : Fd_partials K fd_partials) (G_partials : FnOk PP w K mg base CX0 7 (ga K "partials") fd_partials ["question", "store"] (spG (ga K) 2 phi_partials)) {fd_best_order : FuncData} (F_best_order : Fd_best_order K fd_best_order) (G_best_order : FnOk PP w K mg base CX0 10 (ga K "best_order") fd_best_order ["question", "store"] (spG (ga K) 2 phi_best_order)) {fd_matches_with : FuncData} (F_matches_with : Fd_matches_with K fd_matches_with) (G_matches_with : FnOk PP w K mg base CX0 7 (ga K "matches_with") fd_matches_with ["question", "store", "fact"] (spG (ga K) 3 phi_matches_with)) {fd__law_made_right : FuncData} (F__law_made_right : Fd__law_made_right K fd__law_made_right) (G__law_made_right : FnOk PP w K mg base CX0 7 (ga K "_law_made_right") fd__law_made_right ["_law_body", "_law_gaps", "_law_bars", "_law_tops"] (spG (ga K) 4 phi__law_made_right)) : FnOk PP w K mg base CX0 11 (ga K "law") fd ["_law_script"] (spLaw K) := by
  have b_ps : Binds K fd_ps ["_law_script", "_law_few"] [] := F_ps.bindsN fun _ _ _ _ _ _ us hl => match us, hl with | [_, _], _ => rfl
  have b__law_parts_1 : Binds K fd__law_parts ["_law_purse_here"] [] := F__law_parts.bindsN fun _ _ _ _ _ _ us hl => match us, hl with | [_], _ => rfl
  have b__law_bags_1 : Binds K fd__law_bags ["_law_purse_here"] [] := F__law_bags.bindsN fun _ _ _ _ _ _ us hl => match us, hl with | [_], _ => rfl
  have b__law_draw_2 : Binds K fd__law_draw ["_law_purse_here", "_law_many"] [] := F__law_draw.bindsN fun _ _ _ _ _ _ us hl => match us, hl with | [_, _], _ => rfl
  obtain ⟨ds_Question_init_4, v_Question_init_4, b_Question_init_4⟩ : ∃ ds, Vals ([] : List V) ds ∧ Binds K fd_Question_init ["self", "columns", "told", "pairs"] ds := F_Question_init.binds1 4 1 (by decide) rfl (fun _ _ _ _ _ _ _ us its hl hi => match us, its, hl, hi with | [_, _, _, _], [_], _, _ => ⟨_, rfl, rfl⟩)
  have kb_matches_store_question : KBn K fd_matches ["question", "store"] 0 ["store", "question"] (fun _ ws => pick [1, 0] ws) (gW0 [1, 0]) := kb0 F_matches ["store", "question"] [1, 0] (fun _ _ _ _ _ _ ws hl => match ws, hl with | [_, _], _ => rfl)
  have b_matches_2 : Binds K fd_matches ["question", "store"] [] := F_matches.bindsN fun _ _ _ _ _ _ us hl => match us, hl with | [_, _], _ => rfl
  have kb_variables_question : KBn K fd_variables ["question"] 0 ["question"] (fun _ ws => pick [0] ws) (gW0 [0]) := kb0 F_variables ["question"] [0] (fun _ _ _ _ _ _ ws hl => match ws, hl with | [_], _ => rfl)
  have b_variables_1 : Binds K fd_variables ["question"] [] := F_variables.bindsN fun _ _ _ _ _ _ us hl => match us, hl with | [_], _ => rfl
  have kb_count_matches_store_question : KBn K fd_count_matches ["question", "store"] 0 ["store", "question"] (fun _ ws => pick [1, 0] ws) (gW0 [1, 0]) := kb0 F_count_matches ["store", "question"] [1, 0] (fun _ _ _ _ _ _ ws hl => match ws, hl with | [_, _], _ => rfl)
  have b_count_matches_2 : Binds K fd_count_matches ["question", "store"] [] := F_count_matches.bindsN fun _ _ _ _ _ _ us hl => match us, hl with | [_, _], _ => rfl
  have kb_partials_store_question : KBn K fd_partials ["question", "store"] 0 ["store", "question"] (fun _ ws => pick [1, 0] ws) (gW0 [1, 0]) := kb0 F_partials ["store", "question"] [1, 0] (fun _ _ _ _ _ _ ws hl => match ws, hl with | [_, _], _ => rfl)
  have b_partials_2 : Binds K fd_partials ["question", "store"] [] := F_partials.bindsN fun _ _ _ _ _ _ us hl => match us, hl with | [_, _], _ => rfl
  have kb_best_order_store_question : KBn K fd_best_order ["question", "store"] 0 ["store", "question"] (fun _ ws => pick [1, 0] ws) (gW0 [1, 0]) := kb0 F_best_order ["store", "question"] [1, 0] (fun _ _ _ _ _ _ ws hl => match ws, hl with | [_, _], _ => rfl)
  have b_best_order_2 : Binds K fd_best_order ["question", "store"] [] := F_best_order.bindsN fun _ _ _ _ _ _ us hl => match us, hl with | [_, _], _ => rfl
  have kb_matches_with_fact_store_question : KBn K fd_matches_with ["question", "store", "fact"] 0 ["fact", "store", "question"] (fun _ ws => pick [2, 1, 0] ws) (gW0 [2, 1, 0]) := kb0 F_matches_with ["fact", "store", "question"] [2, 1, 0] (fun _ _ _ _ _ _ ws hl => match ws, hl with | [_, _, _], _ => rfl)
  have b_matches_with_3 : Binds K fd_matches_with ["question", "store", "fact"] [] := F_matches_with.bindsN fun _ _ _ _ _ _ us hl => match us, hl with | [_, _, _], _ => rfl
  have b__law_made_right_4 : Binds K fd__law_made_right ["_law_body", "_law_gaps", "_law_bars", "_law_tops"] [] := F__law_made_right.bindsN fun _ _ _ _ _ _ us hl => match us, hl with | [_, _, _, _], _ => rfl
  refine F.ok sc_law (fun vs H Q E h => by obtain ⟨a, b, rfl, _⟩ := h; rfl) fun cdv A outer s H vs Q EX hr h => ?_
  have hu0 : (A.deeper (envOfC "law" (defScope d_g_law.st) s.heap.objs.size (ga K "law") cdv)).units < cLine := by have := hr.un; omega
  have hu : (A.deeper (envOfC "law" (defScope d_g_law.st) s.heap.objs.size (ga K "law") cdv)).units + 64 < cLine := by have := hr.un; omega
  have hu1 : (A.deeper (envOfC "law" (defScope d_g_law.st) s.heap.objs.size (ga K "law") cdv)).units + 1 < cLine := by have := hr.un; omega
  have hv : (A.deeper (envOfC "law" (defScope d_g_law.st) s.heap.objs.size (ga K "law") cdv)).units + 65 < cLine := by have := hr.un; omega
  refine ⟨_, PSs.nox (pss_cons (ps_for PassesOwn.never rfl (UK.it K (pe_call G_ps (hr.mono (by decide)) rfl T.gl__law_purses F_ps.kp b_ps .nil pass0 (pa_cons (pv 0) (pa_cons pe_int pa_nil)))) (pg_name (i := 1) sc_law.nd rfl (by first | exact Or.inl rfl | exact Or.inr rfl))
      (pss_cons (ps_asg (pe_call G__law_parts (hr.mono (by decide)) rfl (T.gl__law_parts) F__law_parts.kp b__law_parts_1 .nil pass0 (pa_cons (pv 1) pa_nil)) (W.unl K 3 (pgs_cons (pg_name (i := 2) sc_law.nd rfl (by first | exact Or.inl rfl | exact Or.inr rfl)) (pgs_cons (pg_name (i := 3) sc_law.nd rfl (by first | exact Or.inl rfl | exact Or.inr rfl)) (pgs_cons (pg_name (i := 4) sc_law.nd rfl (by first | exact Or.inl rfl | exact Or.inr rfl)) pgs_nil)))))
      (pss_cons (ps_par (i := 5) (j := 6) rfl sc_law.nd rfl rfl (by decide) rfl rfl (pa_cons (pe_slice (UK.sl K) (pe_lst (pa_cons pe_str (pa_cons pe_str pa_nil))) po_none (po_some (pe_call G__law_draw (hr.mono (by decide)) rfl (T.gl__law_draw) F__law_draw.kp b__law_draw_2 .nil pass0 (pa_cons (pv 1) (pa_cons pe_int pa_nil))))) (pa_cons (pe_call G__law_bags (hr.mono (by decide)) rfl (T.gl__law_bags) F__law_bags.kp b__law_bags_1 .nil pass0 (pa_cons (pv 1) pa_nil)) pa_nil)) (by kernel_rfl))
      (pss_cons (ps_set (i := 7) sc_law.nd rfl (by first | exact Or.inl rfl | exact Or.inr rfl) (pe_make (T.mk_Question) G_Question_init (hr.mono (by decide)) rfl (T.gl_Question) b_Question_init_4 v_Question_init_4 pass0 (pa_cons (pv 5) (pa_cons (pv 2) (pa_cons (pv 3) pa_nil)))))
      (pss_cons (ps_if (PW.pt (pw_or (pt_cmpR (W.ne K hu) (W.callK G_variables (hr.mono (by decide)) (T.gl_variables) F_variables.kp kb_variables_question pass0 (pk_cons (pv 7) pk_nil)) (pe_call G_variables (hr.mono (by decide)) rfl (T.gl_variables) F_variables.kp b_variables_1 .nil pass0 (pa_cons (pv 7) pa_nil)) (nomark _)) (pw_or1 (pt_cmpR (W.ne K hu) (W.callK G_matches (hr.mono (by decide)) (T.gl_matches) F_matches.kp kb_matches_store_question pass0 (pk_cons (pv 6) (pk_cons (pv 7) pk_nil))) (pe_call G_matches (hr.mono (by decide)) rfl (T.gl_matches) F_matches.kp b_matches_2 .nil pass0 (pa_cons (pv 7) (pa_cons (pv 6) pa_nil))) (nomark _))))) (pss_one (ps_ret pe_bl)) pss_nil)
      (pss_cons (ps_if (pt_cmpR (W.ne K hu) (W.callK G_count_matches (hr.mono (by decide)) (T.gl_count_matches) F_count_matches.kp kb_count_matches_store_question pass0 (pk_cons (pv 6) (pk_cons (pv 7) pk_nil))) (pe_call G_count_matches (hr.mono (by decide)) rfl (T.gl_count_matches) F_count_matches.kp b_count_matches_2 .nil pass0 (pa_cons (pv 7) (pa_cons (pv 6) pa_nil))) (nomark _)) (pss_one (ps_ret pe_bl)) pss_nil)
      (pss_cons (ps_if (pt_cmpR (W.ne K hu) (W.callK G_partials (hr.mono (by decide)) (T.gl_partials) F_partials.kp kb_partials_store_question pass0 (pk_cons (pv 6) (pk_cons (pv 7) pk_nil))) (pe_call G_partials (hr.mono (by decide)) rfl (T.gl_partials) F_partials.kp b_partials_2 .nil pass0 (pa_cons (pv 7) (pa_cons (pv 6) pa_nil))) (nomark _)) (pss_one (ps_ret pe_bl)) pss_nil)
      (pss_cons (ps_if (pt_cmpR (W.ne K hu) (W.callK G_best_order (hr.mono (by decide)) (T.gl_best_order) F_best_order.kp kb_best_order_store_question pass0 (pk_cons (pv 6) (pk_cons (pv 7) pk_nil))) (pe_call G_best_order (hr.mono (by decide)) rfl (T.gl_best_order) F_best_order.kp b_best_order_2 .nil pass0 (pa_cons (pv 7) (pa_cons (pv 6) pa_nil))) (nomark _)) (pss_one (ps_ret pe_bl)) pss_nil)
      (pss_cons (ps_for PassesOwn.never rfl (W.itAll K (pe_slice (UK.sl K) (pv 6) po_none (po_some pe_int))) (pg_name (i := 8) sc_law.nd rfl (by first | exact Or.inl rfl | exact Or.inr rfl)) (pss_one (ps_if (pt_cmpR (W.ne K hu) (W.callK G_matches_with (hr.mono (by decide)) (T.gl_matches_with) F_matches_with.kp kb_matches_with_fact_store_question pass0 (pk_cons (pv 8) (pk_cons (pv 6) (pk_cons (pv 7) pk_nil)))) (pe_call G_matches_with (hr.mono (by decide)) rfl (T.gl_matches_with) F_matches_with.kp b_matches_with_3 .nil pass0 (pa_cons (pv 7) (pa_cons (pv 6) (pa_cons (pv 8) pa_nil)))) (nomark _)) (pss_one (ps_ret pe_bl)) pss_nil)))
      (pss_one (ps_if (pt_not (pt_val (pe_call G__law_made_right (hr.mono (by decide)) rfl (T.gl__law_made_right) F__law_made_right.kp b__law_made_right_4 .nil pass0 (pa_cons (pv 2) (pa_cons (pv 3) (pa_cons (pv 4) (pa_cons (pv 5) pa_nil))))))) (pss_one (ps_ret pe_bl)) pss_nil)))))))))))
    (pss_one (ps_ret pe_bl))), ?_⟩
  obtain ⟨sc, ns, rfl, hn, hs, q⟩ := h
  have A0 : EvA (tCons (tVar 0) (tCons (tC (.int 6)) tNil)) (start N_law [.ref sc]) H [.ref sc, .int 6] := ea_cons (ev_var rfl) (ea_cons ev_c ea_nil)
  refine .inl ?_
  change tCall (spPurses K) [] _ (tCons (tVar 0) (tCons (tC (.int 6)) tNil)) (start N_law [.ref sc]) H _
  refine A0 H (Ex.refl H) _ fun H1 e1 => ⟨sc, ns, rfl, hn, ex_l e1 hs, fun ps L H2 hL hLp nL nd pl hps e2 => ?_⟩
  refine ⟨L, rfl, ⟨ps.map V.ref, sq_of hLp⟩, for_list (fun i σ' H' => σ'.length = 9 ∧ H' L = some (.lst (ps.map V.ref)) ∧ ∀ j p, i ≤ j → ps[j]? = some p → ∃ q0 q1 q3, H' p = some (Prs q0 q1 0 q3) ∧ 0 ≤ q0 ∧ (0 ≤ q1 ∧ q1 < 4294967296) ∧ (0 ≤ q3 ∧ q3 < 4294967296))
    ⟨rfl, hLp, fun j p _ hj => (hps p (List.mem_of_getElem? hj)).2⟩ (fun i σ' H' _ hp => sq_of hp.2.1) (fun i x σ' H' hx hp => ?_) fun σ' H' hp => q H'⟩
  obtain ⟨hl, hL2, hall⟩ := hp
  rw [List.getElem?_map] at hx
  cases hpi : ps[i]? with
  | none => rw [hpi] at hx; cases hx
  | some p =>
    rw [hpi] at hx
    cases hx
    obtain ⟨q0, q1, q3, hp0, g0, g1, g3⟩ := hall i p (Nat.le_refl i) hpi
    have pm : p ∈ ps := List.mem_of_getElem? hpi
    have npL : L ≠ p := fun e => nL (e ▸ pm)
    have s1 : (σ'.set 1 (some (.ref p)))[1]? = some (some (.ref p)) := List.getElem?_set_self (by rw [hl]; decide)
    refine gn_use ?_
    dsimp only
    refine body_use (K := K) ?ev (by rw [List.length_set, hl]) s1 hp0 g0 g1 g3 ?k
    · unfold m_body
      try dsimp only [List.map, List.drop_succ_cons, List.drop_zero, List.length_cons, List.length_nil, Nat.reduceAdd, Nat.zero_add]
      infer_instance
    · intro σ2 H3 l2 hold
      refine ⟨l2, hold L _ npL hL2, fun j p' hj hp' => ?_⟩
      have nep : p' ≠ p := fun e => by
        rw [e] at hp'
        obtain ⟨l1, z1⟩ := List.getElem?_eq_some_iff.mp hp'
        obtain ⟨l2, z2⟩ := List.getElem?_eq_some_iff.mp hpi
        have := (List.getElem_inj nd).mp (z1.trans z2.symm)
        omega
      obtain ⟨w0, w1, w3, hw, ww⟩ := hall j p' (by omega) hp'
      exact ⟨w0, w1, w3, hold p' _ nep hw, ww⟩
end
end K12

set_option Elab.async false
set_option linter.all false
set_option maxRecDepth 100000
set_option maxHeartbeats 0
namespace K12
open PySem PySem.Spec PyProof.Rows L2 NE He Cv
section
variable {K : PySem.W.Frag} {mg : PySem.Str → Option Value}
theorem chk_all (h : chk K = true) : gls.all (glB K) = true ∧ frs.all (frB K) = true ∧ cons.all (fun p => conB K p.1 p.2) = true ∧ clss.all (fun c => isiFB K (ga K c) && mkFB K (ga K c) (ma K (ga K c) "__init__")) = true ∧ mes.all (fun p => meFB K (ga K p.1) p.2 (ma K (ga K p.1) p.2)) = true ∧ prs.all (fun p => prFB K (ga K p.1) p.2 (ma K (ga K p.1) p.2) (pga K (ga K p.1) p.2)) = true ∧ nas.all (fun p => naFB K (ga K p.1) p.2) = true ∧ eqcs.all (fun c => eqFB K (ga K c) (ma K (ga K c) "__eq__")) = true := by
  unfold chk at h
  rw [Bool.and_eq_true, Bool.and_eq_true, Bool.and_eq_true, Bool.and_eq_true, Bool.and_eq_true, Bool.and_eq_true, Bool.and_eq_true] at h
  exact h
theorem txt0_of {h : Heap} (X : K.In h) (G : h.Ns mainGlobals mg) (c : SaysB fnn chk K) : Txt K mg := by
  obtain ⟨h1, h2, h3, h4, h5, h6, h7, h8⟩ := chk_all c.ok
  have gl := fun x (m : x ∈ gls) => Fr.glB_ok X G (List.all_eq_true.mp h1 x m)
  have fr := fun x (m : x ∈ frs) => Fr.frB_ok X G (List.all_eq_true.mp h2 x m)
  have co := fun p (m : p ∈ cons) => Fr.conB_ok X G (List.all_eq_true.mp h3 p m)
  have ci := fun c (m : c ∈ clss) => Fr.isiFB_ok (Bool.and_eq_true_iff.mp (List.all_eq_true.mp h4 c m)).1
  have cm := fun c (m : c ∈ clss) => Fr.mkFB_ok (Bool.and_eq_true_iff.mp (List.all_eq_true.mp h4 c m)).2
  have me := fun p (m : p ∈ mes) => Fr.meFB_ok (List.all_eq_true.mp h5 p m)
  have pr := fun p (m : p ∈ prs) => Fr.prFB_ok (List.all_eq_true.mp h6 p m)
  have na := fun p (m : p ∈ nas) => Fr.naFB_ok (List.all_eq_true.mp h7 p m)
  have eqq := fun c (m : c ∈ eqcs) => Fr.eqFB_ok (List.all_eq_true.mp h8 c m)
  exact {
    c_LOWER := co _ (.head _),
    c_UPPER := co _ (.tail _ (.head _)),
    cls_Book := (ci _ (.tail _ (.head _))).cls,
    cls_Question := (ci _ (.tail _ (.tail _ (.head _)))).cls,
    cls_Rule := (ci _ (.head _)).cls,
    eq_Book := eqq _ (.head _),
    eq_Question := eqq _ (.tail _ (.head _)),
    eq_Rule := eqq _ (.tail _ (.tail _ (.head _))),
    fr_dict := fr _ (.head _),
    fr_isinstance := fr _ (.tail _ (.head _)),
    fr_len := fr _ (.tail _ (.tail _ (.head _))),
    fr_list := fr _ (.tail _ (.tail _ (.tail _ (.head _)))),
    fr_range := fr _ (.tail _ (.tail _ (.tail _ (.tail _ (.head _))))),
    fr_set := fr _ (.tail _ (.tail _ (.tail _ (.tail _ (.tail _ (.head _)))))),
    fr_sorted := fr _ (.tail _ (.tail _ (.tail _ (.tail _ (.tail _ (.tail _ (.head _))))))),
    fr_str := fr _ (.tail _ (.tail _ (.tail _ (.tail _ (.tail _ (.tail _ (.tail _ (.head _)))))))),
    fr_sum := fr _ (.tail _ (.tail _ (.tail _ (.tail _ (.tail _ (.tail _ (.tail _ (.tail _ (.head _))))))))),
    fr_tuple := fr _ (.tail _ (.tail _ (.tail _ (.tail _ (.tail _ (.tail _ (.tail _ (.tail _ (.tail _ (.head _)))))))))),
    fr_zip := fr _ (.tail _ (.tail _ (.tail _ (.tail _ (.tail _ (.tail _ (.tail _ (.tail _ (.tail _ (.tail _ (.head _))))))))))),
    gl_Book := gl _ (.head _),
    gl_Question := gl _ (.tail _ (.head _)),
    gl_Rule := gl _ (.tail _ (.tail _ (.head _))),
    gl__law_draw := gl _ (.tail _ (.tail _ (.tail _ (.head _)))),
    gl__law_mixed := gl _ (.tail _ (.tail _ (.tail _ (.tail _ (.head _))))),
    gl__law_one_of := gl _ (.tail _ (.tail _ (.tail _ (.tail _ (.tail _ (.head _)))))),
    gl_are_pairs := gl _ (.tail _ (.tail _ (.tail _ (.tail _ (.tail _ (.tail _ (.head _))))))),
    gl_are_patterns := gl _ (.tail _ (.tail _ (.tail _ (.tail _ (.tail _ (.tail _ (.tail _ (.head _)))))))),
    gl_as_facts := gl _ (.tail _ (.tail _ (.tail _ (.tail _ (.tail _ (.tail _ (.tail _ (.tail _ (.head _))))))))),
    gl_check_fact := gl _ (.tail _ (.tail _ (.tail _ (.tail _ (.tail _ (.tail _ (.tail _ (.tail _ (.tail _ (.head _)))))))))),
    gl_check_question := gl _ (.tail _ (.tail _ (.tail _ (.tail _ (.tail _ (.tail _ (.tail _ (.tail _ (.tail _ (.tail _ (.head _))))))))))),
    gl_check_store := gl _ (.tail _ (.tail _ (.tail _ (.tail _ (.tail _ (.tail _ (.tail _ (.tail _ (.tail _ (.tail _ (.tail _ (.head _)))))))))))),
    gl_filled := gl _ (.tail _ (.tail _ (.tail _ (.tail _ (.tail _ (.tail _ (.tail _ (.tail _ (.tail _ (.tail _ (.tail _ (.tail _ (.head _))))))))))))),
    gl_is_fact := gl _ (.tail _ (.tail _ (.tail _ (.tail _ (.tail _ (.tail _ (.tail _ (.tail _ (.tail _ (.tail _ (.tail _ (.tail _ (.tail _ (.head _)))))))))))))),
    gl_is_name := gl _ (.tail _ (.tail _ (.tail _ (.tail _ (.tail _ (.tail _ (.tail _ (.tail _ (.tail _ (.tail _ (.tail _ (.tail _ (.tail _ (.tail _ (.head _))))))))))))))),
    gl_is_pair := gl _ (.tail _ (.tail _ (.tail _ (.tail _ (.tail _ (.tail _ (.tail _ (.tail _ (.tail _ (.tail _ (.tail _ (.tail _ (.tail _ (.tail _ (.tail _ (.head _)))))))))))))))),
    gl_is_pattern := gl _ (.tail _ (.tail _ (.tail _ (.tail _ (.tail _ (.tail _ (.tail _ (.tail _ (.tail _ (.tail _ (.tail _ (.tail _ (.tail _ (.tail _ (.tail _ (.tail _ (.head _))))))))))))))))),
    gl_is_store := gl _ (.tail _ (.tail _ (.tail _ (.tail _ (.tail _ (.tail _ (.tail _ (.tail _ (.tail _ (.tail _ (.tail _ (.tail _ (.tail _ (.tail _ (.tail _ (.tail _ (.tail _ (.head _)))))))))))))))))),
    gl_is_term := gl _ (.tail _ (.tail _ (.tail _ (.tail _ (.tail _ (.tail _ (.tail _ (.tail _ (.tail _ (.tail _ (.tail _ (.tail _ (.tail _ (.tail _ (.tail _ (.tail _ (.tail _ (.tail _ (.head _))))))))))))))))))),
    gl_is_variable := gl _ (.tail _ (.tail _ (.tail _ (.tail _ (.tail _ (.tail _ (.tail _ (.tail _ (.tail _ (.tail _ (.tail _ (.tail _ (.tail _ (.tail _ (.tail _ (.tail _ (.tail _ (.tail _ (.tail _ (.head _)))))))))))))))))))),
    gl_keeps_apart := gl _ (.tail _ (.tail _ (.tail _ (.tail _ (.tail _ (.tail _ (.tail _ (.tail _ (.tail _ (.tail _ (.tail _ (.tail _ (.tail _ (.tail _ (.tail _ (.tail _ (.tail _ (.tail _ (.tail _ (.tail _ (.head _))))))))))))))))))))),
    gl_kind_of := gl _ (.tail _ (.tail _ (.tail _ (.tail _ (.tail _ (.tail _ (.tail _ (.tail _ (.tail _ (.tail _ (.tail _ (.tail _ (.tail _ (.tail _ (.tail _ (.tail _ (.tail _ (.tail _ (.tail _ (.tail _ (.tail _ (.head _)))))))))))))))))))))),
    gl_led_on := gl _ (.tail _ (.tail _ (.tail _ (.tail _ (.tail _ (.tail _ (.tail _ (.tail _ (.tail _ (.tail _ (.tail _ (.tail _ (.tail _ (.tail _ (.tail _ (.tail _ (.tail _ (.tail _ (.tail _ (.tail _ (.tail _ (.tail _ (.head _))))))))))))))))))))))),
    gl_match_names := gl _ (.tail _ (.tail _ (.tail _ (.tail _ (.tail _ (.tail _ (.tail _ (.tail _ (.tail _ (.tail _ (.tail _ (.tail _ (.tail _ (.tail _ (.tail _ (.tail _ (.tail _ (.tail _ (.tail _ (.tail _ (.tail _ (.tail _ (.tail _ (.head _)))))))))))))))))))))))),
    gl_matches := gl _ (.tail _ (.tail _ (.tail _ (.tail _ (.tail _ (.tail _ (.tail _ (.tail _ (.tail _ (.tail _ (.tail _ (.tail _ (.tail _ (.tail _ (.tail _ (.tail _ (.tail _ (.tail _ (.tail _ (.tail _ (.tail _ (.tail _ (.tail _ (.tail _ (.head _))))))))))))))))))))))))),
    gl_matches_in := gl _ (.tail _ (.tail _ (.tail _ (.tail _ (.tail _ (.tail _ (.tail _ (.tail _ (.tail _ (.tail _ (.tail _ (.tail _ (.tail _ (.tail _ (.tail _ (.tail _ (.tail _ (.tail _ (.tail _ (.tail _ (.tail _ (.tail _ (.tail _ (.tail _ (.tail _ (.head _)))))))))))))))))))))))))),
    gl_matches_of := gl _ (.tail _ (.tail _ (.tail _ (.tail _ (.tail _ (.tail _ (.tail _ (.tail _ (.tail _ (.tail _ (.tail _ (.tail _ (.tail _ (.tail _ (.tail _ (.tail _ (.tail _ (.tail _ (.tail _ (.tail _ (.tail _ (.tail _ (.tail _ (.tail _ (.tail _ (.tail _ (.head _))))))))))))))))))))))))))),
    gl_orders_of := gl _ (.tail _ (.tail _ (.tail _ (.tail _ (.tail _ (.tail _ (.tail _ (.tail _ (.tail _ (.tail _ (.tail _ (.tail _ (.tail _ (.tail _ (.tail _ (.tail _ (.tail _ (.tail _ (.tail _ (.tail _ (.tail _ (.tail _ (.tail _ (.tail _ (.tail _ (.tail _ (.tail _ (.head _)))))))))))))))))))))))))))),
    gl_steps_of := gl _ (.tail _ (.tail _ (.tail _ (.tail _ (.tail _ (.tail _ (.tail _ (.tail _ (.tail _ (.tail _ (.tail _ (.tail _ (.tail _ (.tail _ (.tail _ (.tail _ (.tail _ (.tail _ (.tail _ (.tail _ (.tail _ (.tail _ (.tail _ (.tail _ (.tail _ (.tail _ (.tail _ (.tail _ (.head _))))))))))))))))))))))))))))),
    gl_stray := gl _ (.tail _ (.tail _ (.tail _ (.tail _ (.tail _ (.tail _ (.tail _ (.tail _ (.tail _ (.tail _ (.tail _ (.tail _ (.tail _ (.tail _ (.tail _ (.tail _ (.tail _ (.tail _ (.tail _ (.tail _ (.tail _ (.tail _ (.tail _ (.tail _ (.tail _ (.tail _ (.tail _ (.tail _ (.tail _ (.head _)))))))))))))))))))))))))))))),
    gl_variables_of := gl _ (.tail _ (.tail _ (.tail _ (.tail _ (.tail _ (.tail _ (.tail _ (.tail _ (.tail _ (.tail _ (.tail _ (.tail _ (.tail _ (.tail _ (.tail _ (.tail _ (.tail _ (.tail _ (.tail _ (.tail _ (.tail _ (.tail _ (.tail _ (.tail _ (.tail _ (.tail _ (.tail _ (.tail _ (.tail _ (.tail _ (.head _))))))))))))))))))))))))))))))),
    isc_Book := ci _ (.tail _ (.head _)),
    isc_Question := ci _ (.tail _ (.tail _ (.head _))),
    isc_Rule := ci _ (.head _),
    me_Book_rule := me _ (.head _),
    me_Book_without := me _ (.tail _ (.head _)),
    mk_Book := cm _ (.tail _ (.head _)),
    mk_Question := cm _ (.tail _ (.tail _ (.head _))),
    mk_Rule := cm _ (.head _),
    pr_Question_pairs := pr _ (.head _),
    pr_Question_told := pr _ (.tail _ (.head _)),
    pr_Rule_denied := pr _ (.tail _ (.tail _ (.head _))),
    pr_Rule_label := pr _ (.tail _ (.tail _ (.tail _ (.head _)))),
    pr_Rule_pairs := pr _ (.tail _ (.tail _ (.tail _ (.tail _ (.head _))))),
    pr_Rule_told := pr _ (.tail _ (.tail _ (.tail _ (.tail _ (.tail _ (.head _)))))),
    fo_row := ⟨fun cl hcl => by
    simp only [List.mem_cons, List.not_mem_nil, or_false] at hcl
    rcases hcl with rfl | rfl
    · exact ⟨(ci _ (.head _)).cls, na _ (.head _)⟩
    · exact ⟨(ci _ (.tail _ (.tail _ (.head _)))).cls, na _ (.tail _ (.tail _ (.tail _ (.head _))))⟩⟩,
    fo_all := ⟨fun cl hcl => by
    simp only [List.mem_cons, List.not_mem_nil, or_false] at hcl
    rcases hcl with rfl
    · exact ⟨(ci _ (.tail _ (.head _))).cls, na _ (.tail _ (.head _))⟩⟩,
    fo_every := ⟨fun cl hcl => by
    simp only [List.mem_cons, List.not_mem_nil, or_false] at hcl
    rcases hcl with rfl
    · exact ⟨(ci _ (.tail _ (.head _))).cls, na _ (.tail _ (.tail _ (.head _)))⟩⟩ }
theorem txt_of {h : Heap} (X : K.In h) (G : h.Ns mainGlobals mg) (c : SaysB fnn chk K) : TxtL K mg := by
  obtain ⟨h1, h2, h3, h4, h5, h6, h7, h8⟩ := chk_all c.ok
  have gl := fun x (m : x ∈ gls) => Fr.glB_ok X G (List.all_eq_true.mp h1 x m)
  have fr := fun x (m : x ∈ frs) => Fr.frB_ok X G (List.all_eq_true.mp h2 x m)
  have co := fun p (m : p ∈ cons) => Fr.conB_ok X G (List.all_eq_true.mp h3 p m)
  have ci := fun c (m : c ∈ clss) => Fr.isiFB_ok (Bool.and_eq_true_iff.mp (List.all_eq_true.mp h4 c m)).1
  have cm := fun c (m : c ∈ clss) => Fr.mkFB_ok (Bool.and_eq_true_iff.mp (List.all_eq_true.mp h4 c m)).2
  have me := fun p (m : p ∈ mes) => Fr.meFB_ok (List.all_eq_true.mp h5 p m)
  have pr := fun p (m : p ∈ prs) => Fr.prFB_ok (List.all_eq_true.mp h6 p m)
  have na := fun p (m : p ∈ nas) => Fr.naFB_ok (List.all_eq_true.mp h7 p m)
  have eqq := fun c (m : c ∈ eqcs) => Fr.eqFB_ok (List.all_eq_true.mp h8 c m)
  exact {
    toTxt := txt0_of X G c,
    fr_max := fr _ (.tail _ (.tail _ (.tail _ (.tail _ (.tail _ (.tail _ (.tail _ (.tail _ (.tail _ (.tail _ (.tail _ (.head _)))))))))))),
    fr_min := fr _ (.tail _ (.tail _ (.tail _ (.tail _ (.tail _ (.tail _ (.tail _ (.tail _ (.tail _ (.tail _ (.tail _ (.tail _ (.head _))))))))))))),
    gl__law_bags := gl _ (.tail _ (.tail _ (.tail _ (.tail _ (.tail _ (.tail _ (.tail _ (.tail _ (.tail _ (.tail _ (.tail _ (.tail _ (.tail _ (.tail _ (.tail _ (.tail _ (.tail _ (.tail _ (.tail _ (.tail _ (.tail _ (.tail _ (.tail _ (.tail _ (.tail _ (.tail _ (.tail _ (.tail _ (.tail _ (.tail _ (.tail _ (.head _)))))))))))))))))))))))))))))))),
    gl__law_made_right := gl _ (.tail _ (.tail _ (.tail _ (.tail _ (.tail _ (.tail _ (.tail _ (.tail _ (.tail _ (.tail _ (.tail _ (.tail _ (.tail _ (.tail _ (.tail _ (.tail _ (.tail _ (.tail _ (.tail _ (.tail _ (.tail _ (.tail _ (.tail _ (.tail _ (.tail _ (.tail _ (.tail _ (.tail _ (.tail _ (.tail _ (.tail _ (.tail _ (.head _))))))))))))))))))))))))))))))))),
    gl__law_parts := gl _ (.tail _ (.tail _ (.tail _ (.tail _ (.tail _ (.tail _ (.tail _ (.tail _ (.tail _ (.tail _ (.tail _ (.tail _ (.tail _ (.tail _ (.tail _ (.tail _ (.tail _ (.tail _ (.tail _ (.tail _ (.tail _ (.tail _ (.tail _ (.tail _ (.tail _ (.tail _ (.tail _ (.tail _ (.tail _ (.tail _ (.tail _ (.tail _ (.tail _ (.head _)))))))))))))))))))))))))))))))))),
    gl__law_purse := gl _ (.tail _ (.tail _ (.tail _ (.tail _ (.tail _ (.tail _ (.tail _ (.tail _ (.tail _ (.tail _ (.tail _ (.tail _ (.tail _ (.tail _ (.tail _ (.tail _ (.tail _ (.tail _ (.tail _ (.tail _ (.tail _ (.tail _ (.tail _ (.tail _ (.tail _ (.tail _ (.tail _ (.tail _ (.tail _ (.tail _ (.tail _ (.tail _ (.tail _ (.tail _ (.head _))))))))))))))))))))))))))))))))))),
    gl__law_purses := gl _ (.tail _ (.tail _ (.tail _ (.tail _ (.tail _ (.tail _ (.tail _ (.tail _ (.tail _ (.tail _ (.tail _ (.tail _ (.tail _ (.tail _ (.tail _ (.tail _ (.tail _ (.tail _ (.tail _ (.tail _ (.tail _ (.tail _ (.tail _ (.tail _ (.tail _ (.tail _ (.tail _ (.tail _ (.tail _ (.tail _ (.tail _ (.tail _ (.tail _ (.tail _ (.tail _ (.head _)))))))))))))))))))))))))))))))))))),
    gl_best_order := gl _ (.tail _ (.tail _ (.tail _ (.tail _ (.tail _ (.tail _ (.tail _ (.tail _ (.tail _ (.tail _ (.tail _ (.tail _ (.tail _ (.tail _ (.tail _ (.tail _ (.tail _ (.tail _ (.tail _ (.tail _ (.tail _ (.tail _ (.tail _ (.tail _ (.tail _ (.tail _ (.tail _ (.tail _ (.tail _ (.tail _ (.tail _ (.tail _ (.tail _ (.tail _ (.tail _ (.tail _ (.head _))))))))))))))))))))))))))))))))))))),
    gl_count_matches := gl _ (.tail _ (.tail _ (.tail _ (.tail _ (.tail _ (.tail _ (.tail _ (.tail _ (.tail _ (.tail _ (.tail _ (.tail _ (.tail _ (.tail _ (.tail _ (.tail _ (.tail _ (.tail _ (.tail _ (.tail _ (.tail _ (.tail _ (.tail _ (.tail _ (.tail _ (.tail _ (.tail _ (.tail _ (.tail _ (.tail _ (.tail _ (.tail _ (.tail _ (.tail _ (.tail _ (.tail _ (.tail _ (.head _)))))))))))))))))))))))))))))))))))))),
    gl_law := gl _ (.tail _ (.tail _ (.tail _ (.tail _ (.tail _ (.tail _ (.tail _ (.tail _ (.tail _ (.tail _ (.tail _ (.tail _ (.tail _ (.tail _ (.tail _ (.tail _ (.tail _ (.tail _ (.tail _ (.tail _ (.tail _ (.tail _ (.tail _ (.tail _ (.tail _ (.tail _ (.tail _ (.tail _ (.tail _ (.tail _ (.tail _ (.tail _ (.tail _ (.tail _ (.tail _ (.tail _ (.tail _ (.tail _ (.head _))))))))))))))))))))))))))))))))))))))),
    gl_matches_with := gl _ (.tail _ (.tail _ (.tail _ (.tail _ (.tail _ (.tail _ (.tail _ (.tail _ (.tail _ (.tail _ (.tail _ (.tail _ (.tail _ (.tail _ (.tail _ (.tail _ (.tail _ (.tail _ (.tail _ (.tail _ (.tail _ (.tail _ (.tail _ (.tail _ (.tail _ (.tail _ (.tail _ (.tail _ (.tail _ (.tail _ (.tail _ (.tail _ (.tail _ (.tail _ (.tail _ (.tail _ (.tail _ (.tail _ (.tail _ (.head _)))))))))))))))))))))))))))))))))))))))),
    gl_partials := gl _ (.tail _ (.tail _ (.tail _ (.tail _ (.tail _ (.tail _ (.tail _ (.tail _ (.tail _ (.tail _ (.tail _ (.tail _ (.tail _ (.tail _ (.tail _ (.tail _ (.tail _ (.tail _ (.tail _ (.tail _ (.tail _ (.tail _ (.tail _ (.tail _ (.tail _ (.tail _ (.tail _ (.tail _ (.tail _ (.tail _ (.tail _ (.tail _ (.tail _ (.tail _ (.tail _ (.tail _ (.tail _ (.tail _ (.tail _ (.tail _ (.head _))))))))))))))))))))))))))))))))))))))))),
    gl_variables := gl _ (.tail _ (.tail _ (.tail _ (.tail _ (.tail _ (.tail _ (.tail _ (.tail _ (.tail _ (.tail _ (.tail _ (.tail _ (.tail _ (.tail _ (.tail _ (.tail _ (.tail _ (.tail _ (.tail _ (.tail _ (.tail _ (.tail _ (.tail _ (.tail _ (.tail _ (.tail _ (.tail _ (.tail _ (.tail _ (.tail _ (.tail _ (.tail _ (.tail _ (.tail _ (.tail _ (.tail _ (.tail _ (.tail _ (.tail _ (.tail _ (.tail _ (.head _)))))))))))))))))))))))))))))))))))))))))) }
theorem fd_is_name (c : SaysB fnn chk K) : ∃ fd, Fd_is_name K fd := c.funD (d := d_g_is_name) (.head _) rfl
theorem fd_is_variable (c : SaysB fnn chk K) : ∃ fd, Fd_is_variable K fd := c.funD (d := d_g_is_variable) (.tail _ (.head _)) rfl
theorem fd_is_term (c : SaysB fnn chk K) : ∃ fd, Fd_is_term K fd := c.funD (d := d_g_is_term) (.tail _ (.tail _ (.head _))) rfl
theorem fd_is_pattern (c : SaysB fnn chk K) : ∃ fd, Fd_is_pattern K fd := c.funD (d := d_g_is_pattern) (.tail _ (.tail _ (.tail _ (.head _)))) rfl
theorem fd_is_fact (c : SaysB fnn chk K) : ∃ fd, Fd_is_fact K fd := c.funD (d := d_g_is_fact) (.tail _ (.tail _ (.tail _ (.tail _ (.head _))))) rfl
theorem fd_is_store (c : SaysB fnn chk K) : ∃ fd, Fd_is_store K fd := c.funD (d := d_g_is_store) (.tail _ (.tail _ (.tail _ (.tail _ (.tail _ (.head _)))))) rfl
theorem fd_is_pair (c : SaysB fnn chk K) : ∃ fd, Fd_is_pair K fd := c.funD (d := d_g_is_pair) (.tail _ (.tail _ (.tail _ (.tail _ (.tail _ (.tail _ (.head _))))))) rfl
theorem fd_are_patterns (c : SaysB fnn chk K) : ∃ fd, Fd_are_patterns K fd := c.funD (d := d_g_are_patterns) (.tail _ (.tail _ (.tail _ (.tail _ (.tail _ (.tail _ (.tail _ (.head _)))))))) rfl
theorem fd_are_pairs (c : SaysB fnn chk K) : ∃ fd, Fd_are_pairs K fd := c.funD (d := d_g_are_pairs) (.tail _ (.tail _ (.tail _ (.tail _ (.tail _ (.tail _ (.tail _ (.tail _ (.head _))))))))) rfl
theorem fd_variables_of (c : SaysB fnn chk K) : ∃ fd, Fd_variables_of K fd := c.funD (d := d_g_variables_of) (.tail _ (.tail _ (.tail _ (.tail _ (.tail _ (.tail _ (.tail _ (.tail _ (.tail _ (.head _)))))))))) rfl
theorem fd_stray (c : SaysB fnn chk K) : ∃ fd, Fd_stray K fd := c.funD (d := d_g_stray) (.tail _ (.tail _ (.tail _ (.tail _ (.tail _ (.tail _ (.tail _ (.tail _ (.tail _ (.tail _ (.head _))))))))))) rfl
theorem fd_kind_of (c : SaysB fnn chk K) : ∃ fd, Fd_kind_of K fd := c.funD (d := d_g_kind_of) (.tail _ (.tail _ (.tail _ (.tail _ (.tail _ (.tail _ (.tail _ (.tail _ (.tail _ (.tail _ (.tail _ (.head _)))))))))))) rfl
theorem fd_filled (c : SaysB fnn chk K) : ∃ fd, Fd_filled K fd := c.funD (d := d_g_filled) (.tail _ (.tail _ (.tail _ (.tail _ (.tail _ (.tail _ (.tail _ (.tail _ (.tail _ (.tail _ (.tail _ (.tail _ (.head _))))))))))))) rfl
theorem fd_Rule_init (c : SaysB fnn chk K) : ∃ fd, Fd_Rule_init K fd := c.funD (d := d_m_Rule_init) (.tail _ (.tail _ (.tail _ (.tail _ (.tail _ (.tail _ (.tail _ (.tail _ (.tail _ (.tail _ (.tail _ (.tail _ (.tail _ (.head _)))))))))))))) rfl
theorem fd_Rule_eq (c : SaysB fnn chk K) : ∃ fd, Fd_Rule_eq K fd := c.funD (d := d_m_Rule_eq) (.tail _ (.tail _ (.tail _ (.tail _ (.tail _ (.tail _ (.tail _ (.tail _ (.tail _ (.tail _ (.tail _ (.tail _ (.tail _ (.tail _ (.head _))))))))))))))) rfl
theorem fd_Rule_label (c : SaysB fnn chk K) : ∃ fd, Fd_Rule_label K fd := c.funD (d := d_p_Rule_label) (.tail _ (.tail _ (.tail _ (.tail _ (.tail _ (.tail _ (.tail _ (.tail _ (.tail _ (.tail _ (.tail _ (.tail _ (.tail _ (.tail _ (.tail _ (.head _)))))))))))))))) rfl
theorem fd_Rule_told (c : SaysB fnn chk K) : ∃ fd, Fd_Rule_told K fd := c.funD (d := d_p_Rule_told) (.tail _ (.tail _ (.tail _ (.tail _ (.tail _ (.tail _ (.tail _ (.tail _ (.tail _ (.tail _ (.tail _ (.tail _ (.tail _ (.tail _ (.tail _ (.tail _ (.head _))))))))))))))))) rfl
theorem fd_Rule_pairs (c : SaysB fnn chk K) : ∃ fd, Fd_Rule_pairs K fd := c.funD (d := d_p_Rule_pairs) (.tail _ (.tail _ (.tail _ (.tail _ (.tail _ (.tail _ (.tail _ (.tail _ (.tail _ (.tail _ (.tail _ (.tail _ (.tail _ (.tail _ (.tail _ (.tail _ (.tail _ (.head _)))))))))))))))))) rfl
theorem fd_Rule_denied (c : SaysB fnn chk K) : ∃ fd, Fd_Rule_denied K fd := c.funD (d := d_p_Rule_denied) (.tail _ (.tail _ (.tail _ (.tail _ (.tail _ (.tail _ (.tail _ (.tail _ (.tail _ (.tail _ (.tail _ (.tail _ (.tail _ (.tail _ (.tail _ (.tail _ (.tail _ (.tail _ (.head _))))))))))))))))))) rfl
theorem fd_Question_init (c : SaysB fnn chk K) : ∃ fd, Fd_Question_init K fd := c.funD (d := d_m_Question_init) (.tail _ (.tail _ (.tail _ (.tail _ (.tail _ (.tail _ (.tail _ (.tail _ (.tail _ (.tail _ (.tail _ (.tail _ (.tail _ (.tail _ (.tail _ (.tail _ (.tail _ (.tail _ (.tail _ (.head _)))))))))))))))))))) rfl
theorem fd_Question_eq (c : SaysB fnn chk K) : ∃ fd, Fd_Question_eq K fd := c.funD (d := d_m_Question_eq) (.tail _ (.tail _ (.tail _ (.tail _ (.tail _ (.tail _ (.tail _ (.tail _ (.tail _ (.tail _ (.tail _ (.tail _ (.tail _ (.tail _ (.tail _ (.tail _ (.tail _ (.tail _ (.tail _ (.tail _ (.head _))))))))))))))))))))) rfl
theorem fd_Question_told (c : SaysB fnn chk K) : ∃ fd, Fd_Question_told K fd := c.funD (d := d_p_Question_told) (.tail _ (.tail _ (.tail _ (.tail _ (.tail _ (.tail _ (.tail _ (.tail _ (.tail _ (.tail _ (.tail _ (.tail _ (.tail _ (.tail _ (.tail _ (.tail _ (.tail _ (.tail _ (.tail _ (.tail _ (.tail _ (.head _)))))))))))))))))))))) rfl
theorem fd_Question_pairs (c : SaysB fnn chk K) : ∃ fd, Fd_Question_pairs K fd := c.funD (d := d_p_Question_pairs) (.tail _ (.tail _ (.tail _ (.tail _ (.tail _ (.tail _ (.tail _ (.tail _ (.tail _ (.tail _ (.tail _ (.tail _ (.tail _ (.tail _ (.tail _ (.tail _ (.tail _ (.tail _ (.tail _ (.tail _ (.tail _ (.tail _ (.head _))))))))))))))))))))))) rfl
theorem fd_Book_init (c : SaysB fnn chk K) : ∃ fd, Fd_Book_init K fd := c.funD (d := d_m_Book_init) (.tail _ (.tail _ (.tail _ (.tail _ (.tail _ (.tail _ (.tail _ (.tail _ (.tail _ (.tail _ (.tail _ (.tail _ (.tail _ (.tail _ (.tail _ (.tail _ (.tail _ (.tail _ (.tail _ (.tail _ (.tail _ (.tail _ (.tail _ (.head _)))))))))))))))))))))))) rfl
theorem fd_Book_eq (c : SaysB fnn chk K) : ∃ fd, Fd_Book_eq K fd := c.funD (d := d_m_Book_eq) (.tail _ (.tail _ (.tail _ (.tail _ (.tail _ (.tail _ (.tail _ (.tail _ (.tail _ (.tail _ (.tail _ (.tail _ (.tail _ (.tail _ (.tail _ (.tail _ (.tail _ (.tail _ (.tail _ (.tail _ (.tail _ (.tail _ (.tail _ (.tail _ (.head _))))))))))))))))))))))))) rfl
theorem fd_Book_rule (c : SaysB fnn chk K) : ∃ fd, Fd_Book_rule K fd := c.funD (d := d_m_Book_rule) (.tail _ (.tail _ (.tail _ (.tail _ (.tail _ (.tail _ (.tail _ (.tail _ (.tail _ (.tail _ (.tail _ (.tail _ (.tail _ (.tail _ (.tail _ (.tail _ (.tail _ (.tail _ (.tail _ (.tail _ (.tail _ (.tail _ (.tail _ (.tail _ (.tail _ (.head _)))))))))))))))))))))))))) rfl
theorem fd_Book_without (c : SaysB fnn chk K) : ∃ fd, Fd_Book_without K fd := c.funD (d := d_m_Book_without) (.tail _ (.tail _ (.tail _ (.tail _ (.tail _ (.tail _ (.tail _ (.tail _ (.tail _ (.tail _ (.tail _ (.tail _ (.tail _ (.tail _ (.tail _ (.tail _ (.tail _ (.tail _ (.tail _ (.tail _ (.tail _ (.tail _ (.tail _ (.tail _ (.tail _ (.tail _ (.head _))))))))))))))))))))))))))) rfl
theorem fd_check_fact (c : SaysB fnn chk K) : ∃ fd, Fd_check_fact K fd := c.funD (d := d_g_check_fact) (.tail _ (.tail _ (.tail _ (.tail _ (.tail _ (.tail _ (.tail _ (.tail _ (.tail _ (.tail _ (.tail _ (.tail _ (.tail _ (.tail _ (.tail _ (.tail _ (.tail _ (.tail _ (.tail _ (.tail _ (.tail _ (.tail _ (.tail _ (.tail _ (.tail _ (.tail _ (.tail _ (.head _)))))))))))))))))))))))))))) rfl
theorem fd_check_question (c : SaysB fnn chk K) : ∃ fd, Fd_check_question K fd := c.funD (d := d_g_check_question) (.tail _ (.tail _ (.tail _ (.tail _ (.tail _ (.tail _ (.tail _ (.tail _ (.tail _ (.tail _ (.tail _ (.tail _ (.tail _ (.tail _ (.tail _ (.tail _ (.tail _ (.tail _ (.tail _ (.tail _ (.tail _ (.tail _ (.tail _ (.tail _ (.tail _ (.tail _ (.tail _ (.tail _ (.head _))))))))))))))))))))))))))))) rfl
theorem fd_check_store (c : SaysB fnn chk K) : ∃ fd, Fd_check_store K fd := c.funD (d := d_g_check_store) (.tail _ (.tail _ (.tail _ (.tail _ (.tail _ (.tail _ (.tail _ (.tail _ (.tail _ (.tail _ (.tail _ (.tail _ (.tail _ (.tail _ (.tail _ (.tail _ (.tail _ (.tail _ (.tail _ (.tail _ (.tail _ (.tail _ (.tail _ (.tail _ (.tail _ (.tail _ (.tail _ (.tail _ (.tail _ (.head _)))))))))))))))))))))))))))))) rfl
theorem fd_led_on (c : SaysB fnn chk K) : ∃ fd, Fd_led_on K fd := c.funD (d := d_g_led_on) (.tail _ (.tail _ (.tail _ (.tail _ (.tail _ (.tail _ (.tail _ (.tail _ (.tail _ (.tail _ (.tail _ (.tail _ (.tail _ (.tail _ (.tail _ (.tail _ (.tail _ (.tail _ (.tail _ (.tail _ (.tail _ (.tail _ (.tail _ (.tail _ (.tail _ (.tail _ (.tail _ (.tail _ (.tail _ (.tail _ (.head _))))))))))))))))))))))))))))))) rfl
theorem fd_keeps_apart (c : SaysB fnn chk K) : ∃ fd, Fd_keeps_apart K fd := c.funD (d := d_g_keeps_apart) (.tail _ (.tail _ (.tail _ (.tail _ (.tail _ (.tail _ (.tail _ (.tail _ (.tail _ (.tail _ (.tail _ (.tail _ (.tail _ (.tail _ (.tail _ (.tail _ (.tail _ (.tail _ (.tail _ (.tail _ (.tail _ (.tail _ (.tail _ (.tail _ (.tail _ (.tail _ (.tail _ (.tail _ (.tail _ (.tail _ (.tail _ (.head _)))))))))))))))))))))))))))))))) rfl
theorem fd_matches_of (c : SaysB fnn chk K) : ∃ fd, Fd_matches_of K fd := c.funD (d := d_g_matches_of) (.tail _ (.tail _ (.tail _ (.tail _ (.tail _ (.tail _ (.tail _ (.tail _ (.tail _ (.tail _ (.tail _ (.tail _ (.tail _ (.tail _ (.tail _ (.tail _ (.tail _ (.tail _ (.tail _ (.tail _ (.tail _ (.tail _ (.tail _ (.tail _ (.tail _ (.tail _ (.tail _ (.tail _ (.tail _ (.tail _ (.tail _ (.tail _ (.head _))))))))))))))))))))))))))))))))) rfl
theorem fd_matches_in (c : SaysB fnn chk K) : ∃ fd, Fd_matches_in K fd := c.funD (d := d_g_matches_in) (.tail _ (.tail _ (.tail _ (.tail _ (.tail _ (.tail _ (.tail _ (.tail _ (.tail _ (.tail _ (.tail _ (.tail _ (.tail _ (.tail _ (.tail _ (.tail _ (.tail _ (.tail _ (.tail _ (.tail _ (.tail _ (.tail _ (.tail _ (.tail _ (.tail _ (.tail _ (.tail _ (.tail _ (.tail _ (.tail _ (.tail _ (.tail _ (.tail _ (.head _)))))))))))))))))))))))))))))))))) rfl
theorem fd_match_names (c : SaysB fnn chk K) : ∃ fd, Fd_match_names K fd := c.funD (d := d_g_match_names) (.tail _ (.tail _ (.tail _ (.tail _ (.tail _ (.tail _ (.tail _ (.tail _ (.tail _ (.tail _ (.tail _ (.tail _ (.tail _ (.tail _ (.tail _ (.tail _ (.tail _ (.tail _ (.tail _ (.tail _ (.tail _ (.tail _ (.tail _ (.tail _ (.tail _ (.tail _ (.tail _ (.tail _ (.tail _ (.tail _ (.tail _ (.tail _ (.tail _ (.tail _ (.head _))))))))))))))))))))))))))))))))))) rfl
theorem fd_as_facts (c : SaysB fnn chk K) : ∃ fd, Fd_as_facts K fd := c.funD (d := d_g_as_facts) (.tail _ (.tail _ (.tail _ (.tail _ (.tail _ (.tail _ (.tail _ (.tail _ (.tail _ (.tail _ (.tail _ (.tail _ (.tail _ (.tail _ (.tail _ (.tail _ (.tail _ (.tail _ (.tail _ (.tail _ (.tail _ (.tail _ (.tail _ (.tail _ (.tail _ (.tail _ (.tail _ (.tail _ (.tail _ (.tail _ (.tail _ (.tail _ (.tail _ (.tail _ (.tail _ (.head _)))))))))))))))))))))))))))))))))))) rfl
theorem fd_variables (c : SaysB fnn chk K) : ∃ fd, Fd_variables K fd := c.funD (d := d_g_variables) (.tail _ (.tail _ (.tail _ (.tail _ (.tail _ (.tail _ (.tail _ (.tail _ (.tail _ (.tail _ (.tail _ (.tail _ (.tail _ (.tail _ (.tail _ (.tail _ (.tail _ (.tail _ (.tail _ (.tail _ (.tail _ (.tail _ (.tail _ (.tail _ (.tail _ (.tail _ (.tail _ (.tail _ (.tail _ (.tail _ (.tail _ (.tail _ (.tail _ (.tail _ (.tail _ (.tail _ (.head _))))))))))))))))))))))))))))))))))))) rfl
theorem fd_matches (c : SaysB fnn chk K) : ∃ fd, Fd_matches K fd := c.funD (d := d_g_matches) (.tail _ (.tail _ (.tail _ (.tail _ (.tail _ (.tail _ (.tail _ (.tail _ (.tail _ (.tail _ (.tail _ (.tail _ (.tail _ (.tail _ (.tail _ (.tail _ (.tail _ (.tail _ (.tail _ (.tail _ (.tail _ (.tail _ (.tail _ (.tail _ (.tail _ (.tail _ (.tail _ (.tail _ (.tail _ (.tail _ (.tail _ (.tail _ (.tail _ (.tail _ (.tail _ (.tail _ (.tail _ (.head _)))))))))))))))))))))))))))))))))))))) rfl
theorem fd_count_matches (c : SaysB fnn chk K) : ∃ fd, Fd_count_matches K fd := c.funD (d := d_g_count_matches) (.tail _ (.tail _ (.tail _ (.tail _ (.tail _ (.tail _ (.tail _ (.tail _ (.tail _ (.tail _ (.tail _ (.tail _ (.tail _ (.tail _ (.tail _ (.tail _ (.tail _ (.tail _ (.tail _ (.tail _ (.tail _ (.tail _ (.tail _ (.tail _ (.tail _ (.tail _ (.tail _ (.tail _ (.tail _ (.tail _ (.tail _ (.tail _ (.tail _ (.tail _ (.tail _ (.tail _ (.tail _ (.tail _ (.head _))))))))))))))))))))))))))))))))))))))) rfl
theorem fd_matches_with (c : SaysB fnn chk K) : ∃ fd, Fd_matches_with K fd := c.funD (d := d_g_matches_with) (.tail _ (.tail _ (.tail _ (.tail _ (.tail _ (.tail _ (.tail _ (.tail _ (.tail _ (.tail _ (.tail _ (.tail _ (.tail _ (.tail _ (.tail _ (.tail _ (.tail _ (.tail _ (.tail _ (.tail _ (.tail _ (.tail _ (.tail _ (.tail _ (.tail _ (.tail _ (.tail _ (.tail _ (.tail _ (.tail _ (.tail _ (.tail _ (.tail _ (.tail _ (.tail _ (.tail _ (.tail _ (.tail _ (.tail _ (.head _)))))))))))))))))))))))))))))))))))))))) rfl
theorem fd_steps_of (c : SaysB fnn chk K) : ∃ fd, Fd_steps_of K fd := c.funD (d := d_g_steps_of) (.tail _ (.tail _ (.tail _ (.tail _ (.tail _ (.tail _ (.tail _ (.tail _ (.tail _ (.tail _ (.tail _ (.tail _ (.tail _ (.tail _ (.tail _ (.tail _ (.tail _ (.tail _ (.tail _ (.tail _ (.tail _ (.tail _ (.tail _ (.tail _ (.tail _ (.tail _ (.tail _ (.tail _ (.tail _ (.tail _ (.tail _ (.tail _ (.tail _ (.tail _ (.tail _ (.tail _ (.tail _ (.tail _ (.tail _ (.tail _ (.head _))))))))))))))))))))))))))))))))))))))))) rfl
theorem fd_partials (c : SaysB fnn chk K) : ∃ fd, Fd_partials K fd := c.funD (d := d_g_partials) (.tail _ (.tail _ (.tail _ (.tail _ (.tail _ (.tail _ (.tail _ (.tail _ (.tail _ (.tail _ (.tail _ (.tail _ (.tail _ (.tail _ (.tail _ (.tail _ (.tail _ (.tail _ (.tail _ (.tail _ (.tail _ (.tail _ (.tail _ (.tail _ (.tail _ (.tail _ (.tail _ (.tail _ (.tail _ (.tail _ (.tail _ (.tail _ (.tail _ (.tail _ (.tail _ (.tail _ (.tail _ (.tail _ (.tail _ (.tail _ (.tail _ (.head _)))))))))))))))))))))))))))))))))))))))))) rfl
theorem fd_orders_of (c : SaysB fnn chk K) : ∃ fd, Fd_orders_of K fd := c.funD (d := d_g_orders_of) (.tail _ (.tail _ (.tail _ (.tail _ (.tail _ (.tail _ (.tail _ (.tail _ (.tail _ (.tail _ (.tail _ (.tail _ (.tail _ (.tail _ (.tail _ (.tail _ (.tail _ (.tail _ (.tail _ (.tail _ (.tail _ (.tail _ (.tail _ (.tail _ (.tail _ (.tail _ (.tail _ (.tail _ (.tail _ (.tail _ (.tail _ (.tail _ (.tail _ (.tail _ (.tail _ (.tail _ (.tail _ (.tail _ (.tail _ (.tail _ (.tail _ (.tail _ (.head _))))))))))))))))))))))))))))))))))))))))))) rfl
theorem fd_best_order (c : SaysB fnn chk K) : ∃ fd, Fd_best_order K fd := c.funD (d := d_g_best_order) (.tail _ (.tail _ (.tail _ (.tail _ (.tail _ (.tail _ (.tail _ (.tail _ (.tail _ (.tail _ (.tail _ (.tail _ (.tail _ (.tail _ (.tail _ (.tail _ (.tail _ (.tail _ (.tail _ (.tail _ (.tail _ (.tail _ (.tail _ (.tail _ (.tail _ (.tail _ (.tail _ (.tail _ (.tail _ (.tail _ (.tail _ (.tail _ (.tail _ (.tail _ (.tail _ (.tail _ (.tail _ (.tail _ (.tail _ (.tail _ (.tail _ (.tail _ (.tail _ (.head _)))))))))))))))))))))))))))))))))))))))))))) rfl
theorem fd__law_mixed (c : SaysB fnn chk K) : ∃ fd, Fd__law_mixed K fd := c.funD (d := d_g_law_mixed) (.tail _ (.tail _ (.tail _ (.tail _ (.tail _ (.tail _ (.tail _ (.tail _ (.tail _ (.tail _ (.tail _ (.tail _ (.tail _ (.tail _ (.tail _ (.tail _ (.tail _ (.tail _ (.tail _ (.tail _ (.tail _ (.tail _ (.tail _ (.tail _ (.tail _ (.tail _ (.tail _ (.tail _ (.tail _ (.tail _ (.tail _ (.tail _ (.tail _ (.tail _ (.tail _ (.tail _ (.tail _ (.tail _ (.tail _ (.tail _ (.tail _ (.tail _ (.tail _ (.tail _ (.head _))))))))))))))))))))))))))))))))))))))))))))) rfl
theorem fd__law_draw (c : SaysB fnn chk K) : ∃ fd, Fd__law_draw K fd := c.funD (d := d_g_law_draw) (.tail _ (.tail _ (.tail _ (.tail _ (.tail _ (.tail _ (.tail _ (.tail _ (.tail _ (.tail _ (.tail _ (.tail _ (.tail _ (.tail _ (.tail _ (.tail _ (.tail _ (.tail _ (.tail _ (.tail _ (.tail _ (.tail _ (.tail _ (.tail _ (.tail _ (.tail _ (.tail _ (.tail _ (.tail _ (.tail _ (.tail _ (.tail _ (.tail _ (.tail _ (.tail _ (.tail _ (.tail _ (.tail _ (.tail _ (.tail _ (.tail _ (.tail _ (.tail _ (.tail _ (.tail _ (.head _)))))))))))))))))))))))))))))))))))))))))))))) rfl
theorem fd__law_one_of (c : SaysB fnn chk K) : ∃ fd, Fd__law_one_of K fd := c.funD (d := d_g_law_one_of) (.tail _ (.tail _ (.tail _ (.tail _ (.tail _ (.tail _ (.tail _ (.tail _ (.tail _ (.tail _ (.tail _ (.tail _ (.tail _ (.tail _ (.tail _ (.tail _ (.tail _ (.tail _ (.tail _ (.tail _ (.tail _ (.tail _ (.tail _ (.tail _ (.tail _ (.tail _ (.tail _ (.tail _ (.tail _ (.tail _ (.tail _ (.tail _ (.tail _ (.tail _ (.tail _ (.tail _ (.tail _ (.tail _ (.tail _ (.tail _ (.tail _ (.tail _ (.tail _ (.tail _ (.tail _ (.tail _ (.head _))))))))))))))))))))))))))))))))))))))))))))))) rfl
theorem fd__law_parts (c : SaysB fnn chk K) : ∃ fd, Fd__law_parts K fd := c.funD (d := d_g_law_parts) (.tail _ (.tail _ (.tail _ (.tail _ (.tail _ (.tail _ (.tail _ (.tail _ (.tail _ (.tail _ (.tail _ (.tail _ (.tail _ (.tail _ (.tail _ (.tail _ (.tail _ (.tail _ (.tail _ (.tail _ (.tail _ (.tail _ (.tail _ (.tail _ (.tail _ (.tail _ (.tail _ (.tail _ (.tail _ (.tail _ (.tail _ (.tail _ (.tail _ (.tail _ (.tail _ (.tail _ (.tail _ (.tail _ (.tail _ (.tail _ (.tail _ (.tail _ (.tail _ (.tail _ (.tail _ (.tail _ (.tail _ (.head _)))))))))))))))))))))))))))))))))))))))))))))))) rfl
theorem fd__law_bags (c : SaysB fnn chk K) : ∃ fd, Fd__law_bags K fd := c.funD (d := d_g_law_bags) (.tail _ (.tail _ (.tail _ (.tail _ (.tail _ (.tail _ (.tail _ (.tail _ (.tail _ (.tail _ (.tail _ (.tail _ (.tail _ (.tail _ (.tail _ (.tail _ (.tail _ (.tail _ (.tail _ (.tail _ (.tail _ (.tail _ (.tail _ (.tail _ (.tail _ (.tail _ (.tail _ (.tail _ (.tail _ (.tail _ (.tail _ (.tail _ (.tail _ (.tail _ (.tail _ (.tail _ (.tail _ (.tail _ (.tail _ (.tail _ (.tail _ (.tail _ (.tail _ (.tail _ (.tail _ (.tail _ (.tail _ (.tail _ (.head _))))))))))))))))))))))))))))))))))))))))))))))))) rfl
theorem fd__law_made_right (c : SaysB fnn chk K) : ∃ fd, Fd__law_made_right K fd := c.funD (d := d_g_law_made_right) (.tail _ (.tail _ (.tail _ (.tail _ (.tail _ (.tail _ (.tail _ (.tail _ (.tail _ (.tail _ (.tail _ (.tail _ (.tail _ (.tail _ (.tail _ (.tail _ (.tail _ (.tail _ (.tail _ (.tail _ (.tail _ (.tail _ (.tail _ (.tail _ (.tail _ (.tail _ (.tail _ (.tail _ (.tail _ (.tail _ (.tail _ (.tail _ (.tail _ (.tail _ (.tail _ (.tail _ (.tail _ (.tail _ (.tail _ (.tail _ (.tail _ (.tail _ (.tail _ (.tail _ (.tail _ (.tail _ (.tail _ (.tail _ (.tail _ (.head _)))))))))))))))))))))))))))))))))))))))))))))))))) rfl
theorem fd__law_purse (c : SaysB fnn chk K) : ∃ fd, Fd__law_purse K fd := c.funD (d := d_g_law_purse) (.tail _ (.tail _ (.tail _ (.tail _ (.tail _ (.tail _ (.tail _ (.tail _ (.tail _ (.tail _ (.tail _ (.tail _ (.tail _ (.tail _ (.tail _ (.tail _ (.tail _ (.tail _ (.tail _ (.tail _ (.tail _ (.tail _ (.tail _ (.tail _ (.tail _ (.tail _ (.tail _ (.tail _ (.tail _ (.tail _ (.tail _ (.tail _ (.tail _ (.tail _ (.tail _ (.tail _ (.tail _ (.tail _ (.tail _ (.tail _ (.tail _ (.tail _ (.tail _ (.tail _ (.tail _ (.tail _ (.tail _ (.tail _ (.tail _ (.tail _ (.head _))))))))))))))))))))))))))))))))))))))))))))))))))) rfl
theorem fd__law_purses (c : SaysB fnn chk K) : ∃ fd, Fd__law_purses K fd := c.funD (d := d_g_law_purses) (.tail _ (.tail _ (.tail _ (.tail _ (.tail _ (.tail _ (.tail _ (.tail _ (.tail _ (.tail _ (.tail _ (.tail _ (.tail _ (.tail _ (.tail _ (.tail _ (.tail _ (.tail _ (.tail _ (.tail _ (.tail _ (.tail _ (.tail _ (.tail _ (.tail _ (.tail _ (.tail _ (.tail _ (.tail _ (.tail _ (.tail _ (.tail _ (.tail _ (.tail _ (.tail _ (.tail _ (.tail _ (.tail _ (.tail _ (.tail _ (.tail _ (.tail _ (.tail _ (.tail _ (.tail _ (.tail _ (.tail _ (.tail _ (.tail _ (.tail _ (.tail _ (.head _)))))))))))))))))))))))))))))))))))))))))))))))))))) rfl
theorem fd_law (c : SaysB fnn chk K) : ∃ fd, Fd_law K fd := c.funD (d := d_g_law) (.tail _ (.tail _ (.tail _ (.tail _ (.tail _ (.tail _ (.tail _ (.tail _ (.tail _ (.tail _ (.tail _ (.tail _ (.tail _ (.tail _ (.tail _ (.tail _ (.tail _ (.tail _ (.tail _ (.tail _ (.tail _ (.tail _ (.tail _ (.tail _ (.tail _ (.tail _ (.tail _ (.tail _ (.tail _ (.tail _ (.tail _ (.tail _ (.tail _ (.tail _ (.tail _ (.tail _ (.tail _ (.tail _ (.tail _ (.tail _ (.tail _ (.tail _ (.tail _ (.tail _ (.tail _ (.tail _ (.tail _ (.tail _ (.tail _ (.tail _ (.tail _ (.tail _ (.head _))))))))))))))))))))))))))))))))))))))))))))))))))))) rfl
end
end K12

set_option Elab.async false
set_option linter.all false
set_option maxRecDepth 100000
set_option maxHeartbeats 0
namespace K12
open PySem PySem.Spec PyProof.Rows L2 NE He Evl Fr
section
variable {w : World} {K : PySem.W.Frag} {mg : PySem.Str → Option Value} {fa : Addr} {h : Heap}
theorem facts_of (X : K.In h) (G : h.Ns mainGlobals mg) (hfa : mg "law" = some (.ref fa)) (c : SaysB fnn chk K) : ∃ fd : FuncData, (∀ (s : Shared) (u : Value), BindsTo s fd ⟨[u], []⟩ [("_law_script", u)]) ∧ ∀ base : Heap, K.In base → base.Ns mainGlobals mg → FnOk PP w K mg base CX0 11 fa fd ["_law_script"] (spLaw K) := by
  have TL : TxtL K mg := txt_of X G c
  have T : Txt K mg := TL.toTxt
  obtain ⟨f_is_name, F_is_name⟩ := fd_is_name c
  obtain ⟨f_is_variable, F_is_variable⟩ := fd_is_variable c
  obtain ⟨f_is_term, F_is_term⟩ := fd_is_term c
  obtain ⟨f_is_pattern, F_is_pattern⟩ := fd_is_pattern c
  obtain ⟨f_is_fact, F_is_fact⟩ := fd_is_fact c
  obtain ⟨f_is_store, F_is_store⟩ := fd_is_store c
  obtain ⟨f_is_pair, F_is_pair⟩ := fd_is_pair c
  obtain ⟨f_are_patterns, F_are_patterns⟩ := fd_are_patterns c
  obtain ⟨f_are_pairs, F_are_pairs⟩ := fd_are_pairs c
  obtain ⟨f_variables_of, F_variables_of⟩ := fd_variables_of c
  obtain ⟨f_stray, F_stray⟩ := fd_stray c
  obtain ⟨f_kind_of, F_kind_of⟩ := fd_kind_of c
  obtain ⟨f_filled, F_filled⟩ := fd_filled c
  obtain ⟨f_Rule_init, F_Rule_init⟩ := fd_Rule_init c
  obtain ⟨f_Rule_eq, F_Rule_eq⟩ := fd_Rule_eq c
  obtain ⟨f_Rule_label, F_Rule_label⟩ := fd_Rule_label c
  obtain ⟨f_Rule_told, F_Rule_told⟩ := fd_Rule_told c
  obtain ⟨f_Rule_pairs, F_Rule_pairs⟩ := fd_Rule_pairs c
  obtain ⟨f_Rule_denied, F_Rule_denied⟩ := fd_Rule_denied c
  obtain ⟨f_Question_init, F_Question_init⟩ := fd_Question_init c
  obtain ⟨f_Question_eq, F_Question_eq⟩ := fd_Question_eq c
  obtain ⟨f_Question_told, F_Question_told⟩ := fd_Question_told c
  obtain ⟨f_Question_pairs, F_Question_pairs⟩ := fd_Question_pairs c
  obtain ⟨f_Book_init, F_Book_init⟩ := fd_Book_init c
  obtain ⟨f_Book_eq, F_Book_eq⟩ := fd_Book_eq c
  obtain ⟨f_Book_rule, F_Book_rule⟩ := fd_Book_rule c
  obtain ⟨f_Book_without, F_Book_without⟩ := fd_Book_without c
  obtain ⟨f_check_fact, F_check_fact⟩ := fd_check_fact c
  obtain ⟨f_check_question, F_check_question⟩ := fd_check_question c
  obtain ⟨f_check_store, F_check_store⟩ := fd_check_store c
  obtain ⟨f_led_on, F_led_on⟩ := fd_led_on c
  obtain ⟨f_keeps_apart, F_keeps_apart⟩ := fd_keeps_apart c
  obtain ⟨f_matches_of, F_matches_of⟩ := fd_matches_of c
  obtain ⟨f_matches_in, F_matches_in⟩ := fd_matches_in c
  obtain ⟨f_match_names, F_match_names⟩ := fd_match_names c
  obtain ⟨f_as_facts, F_as_facts⟩ := fd_as_facts c
  obtain ⟨f_variables, F_variables⟩ := fd_variables c
  obtain ⟨f_matches, F_matches⟩ := fd_matches c
  obtain ⟨f_count_matches, F_count_matches⟩ := fd_count_matches c
  obtain ⟨f_matches_with, F_matches_with⟩ := fd_matches_with c
  obtain ⟨f_steps_of, F_steps_of⟩ := fd_steps_of c
  obtain ⟨f_partials, F_partials⟩ := fd_partials c
  obtain ⟨f_orders_of, F_orders_of⟩ := fd_orders_of c
  obtain ⟨f_best_order, F_best_order⟩ := fd_best_order c
  obtain ⟨f__law_mixed, F__law_mixed⟩ := fd__law_mixed c
  obtain ⟨f__law_draw, F__law_draw⟩ := fd__law_draw c
  obtain ⟨f__law_one_of, F__law_one_of⟩ := fd__law_one_of c
  obtain ⟨f__law_parts, F__law_parts⟩ := fd__law_parts c
  obtain ⟨f__law_bags, F__law_bags⟩ := fd__law_bags c
  obtain ⟨f__law_made_right, F__law_made_right⟩ := fd__law_made_right c
  obtain ⟨f__law_purse, F__law_purse⟩ := fd__law_purse c
  obtain ⟨f__law_purses, F__law_purses⟩ := fd__law_purses c
  obtain ⟨f_law, F_law⟩ := fd_law c
  have e := hfa.symm.trans TL.gl_law
  cases e
  have b := FunD.bindsA (ps := ["_law_script"]) F_law fun _ _ _ _ _ _ us hl => match us, hl with | [_], _ => rfl
  refine ⟨f_law, fun s v => b s [v] rfl, fun base _ _ => ?_⟩
  have G_is_name : FnOk PP w K mg base CX0 1 (ga K "is_name") f_is_name ["value"] (spG (ga K) 1 phi_is_name) := ok_is_name T F_is_name 
  have G_is_variable : FnOk PP w K mg base CX0 1 (ga K "is_variable") f_is_variable ["value"] (spG (ga K) 1 phi_is_variable) := ok_is_variable T F_is_variable 
  have G_is_term : FnOk PP w K mg base CX0 2 (ga K "is_term") f_is_term ["value"] (spG (ga K) 1 phi_is_term) := ok_is_term T F_is_term F_is_variable G_is_variable F_is_name G_is_name
  have G_is_pattern : FnOk PP w K mg base CX0 3 (ga K "is_pattern") f_is_pattern ["value"] (spG (ga K) 1 phi_is_pattern) := ok_is_pattern T F_is_pattern F_is_name G_is_name F_is_term G_is_term
  have G_is_fact : FnOk PP w K mg base CX0 4 (ga K "is_fact") f_is_fact ["value"] (spG (ga K) 1 phi_is_fact) := ok_is_fact T F_is_fact F_is_name G_is_name F_is_pattern G_is_pattern
  have G_is_store : FnOk PP w K mg base CX0 5 (ga K "is_store") f_is_store ["value"] (spG (ga K) 1 phi_is_store) := ok_is_store T F_is_store F_is_fact G_is_fact
  have G_is_pair : FnOk PP w K mg base CX0 3 (ga K "is_pair") f_is_pair ["value"] (spG (ga K) 1 phi_is_pair) := ok_is_pair T F_is_pair F_is_term G_is_term F_is_variable G_is_variable
  have G_are_patterns : FnOk PP w K mg base CX0 4 (ga K "are_patterns") f_are_patterns ["value"] (spG (ga K) 1 phi_are_patterns) := ok_are_patterns T F_are_patterns F_is_pattern G_is_pattern
  have G_are_pairs : FnOk PP w K mg base CX0 4 (ga K "are_pairs") f_are_pairs ["value"] (spG (ga K) 1 phi_are_pairs) := ok_are_pairs T F_are_pairs F_is_pair G_is_pair
  have G_variables_of : FnOk PP w K mg base CX0 2 (ga K "variables_of") f_variables_of ["patterns"] (spG (ga K) 1 phi_variables_of) := ok_variables_of T F_variables_of F_is_variable G_is_variable
  have G_stray : FnOk PP w K mg base CX0 3 (ga K "stray") f_stray ["patterns", "pairs", "told"] (spG (ga K) 3 phi_stray) := ok_stray T F_stray F_variables_of G_variables_of F_is_variable G_is_variable
  have G_kind_of : FnOk PP w K mg base CX0 1 (ga K "kind_of") f_kind_of ["pattern"] (spG (ga K) 1 phi_kind_of) := ok_kind_of T F_kind_of 
  have G_filled : FnOk PP w K mg base CX0 1 (ga K "filled") f_filled ["pattern", "names"] (spG (ga K) 2 phi_filled) := ok_filled T F_filled 
  have G_Rule_init : FnOk PP w K mg base CX0 5 (ma K (ga K "Rule") "__init__") f_Rule_init ["self", "label", "head", "told", "pairs", "denied"] (spG (ga K) 6 phi_Rule_init) := ok_Rule_init T F_Rule_init F_is_name G_is_name F_is_pattern G_is_pattern F_are_patterns G_are_patterns F_are_pairs G_are_pairs F_stray G_stray
  have G_Rule_eq : FnOk PP w K mg base CX0 1 (ma K (ga K "Rule") "__eq__") f_Rule_eq ["self", "other"] (spG (ga K) 2 phi_Rule_eq) := ok_Rule_eq T F_Rule_eq 
  have G_Rule_label : FnOk PP w K mg base CX0 1 (pga K (ga K "Rule") "label") f_Rule_label ["self"] (spG (ga K) 1 phi_Rule_label) := ok_Rule_label T F_Rule_label 
  have G_Rule_told : FnOk PP w K mg base CX0 1 (pga K (ga K "Rule") "told") f_Rule_told ["self"] (spG (ga K) 1 phi_Rule_told) := ok_Rule_told T F_Rule_told 
  have G_Rule_pairs : FnOk PP w K mg base CX0 1 (pga K (ga K "Rule") "pairs") f_Rule_pairs ["self"] (spG (ga K) 1 phi_Rule_pairs) := ok_Rule_pairs T F_Rule_pairs 
  have G_Rule_denied : FnOk PP w K mg base CX0 1 (pga K (ga K "Rule") "denied") f_Rule_denied ["self"] (spG (ga K) 1 phi_Rule_denied) := ok_Rule_denied T F_Rule_denied 
  have G_Question_init : FnOk PP w K mg base CX0 5 (ma K (ga K "Question") "__init__") f_Question_init ["self", "columns", "told", "pairs"] (spG (ga K) 4 phi_Question_init) := ok_Question_init T F_Question_init F_is_variable G_is_variable F_are_patterns G_are_patterns F_are_pairs G_are_pairs F_variables_of G_variables_of F_stray G_stray
  have G_Question_eq : FnOk PP w K mg base CX0 1 (ma K (ga K "Question") "__eq__") f_Question_eq ["self", "other"] (spG (ga K) 2 phi_Question_eq) := ok_Question_eq T F_Question_eq 
  have G_Question_told : FnOk PP w K mg base CX0 1 (pga K (ga K "Question") "told") f_Question_told ["self"] (spG (ga K) 1 phi_Question_told) := ok_Question_told T F_Question_told 
  have G_Question_pairs : FnOk PP w K mg base CX0 1 (pga K (ga K "Question") "pairs") f_Question_pairs ["self"] (spG (ga K) 1 phi_Question_pairs) := ok_Question_pairs T F_Question_pairs 
  have G_Book_init : FnOk PP w K mg base CX0 1 (ma K (ga K "Book") "__init__") f_Book_init ["self", "rules"] (spG (ga K) 2 phi_Book_init) := ok_Book_init T F_Book_init 
  have G_Book_eq : FnOk PP w K mg base CX0 1 (ma K (ga K "Book") "__eq__") f_Book_eq ["self", "other"] (spG (ga K) 2 phi_Book_eq) := ok_Book_eq T F_Book_eq 
  have G_Book_rule : FnOk PP w K mg base CX0 3 (ma K (ga K "Book") "rule") f_Book_rule ["self", "label"] (spG (ga K) 2 phi_Book_rule) := ok_Book_rule T F_Book_rule F_Rule_label G_Rule_label
  have G_Book_without : FnOk PP w K mg base CX0 4 (ma K (ga K "Book") "without") f_Book_without ["self", "label"] (spG (ga K) 2 phi_Book_without) := ok_Book_without T F_Book_without F_Book_rule G_Book_rule F_Book_init G_Book_init F_Rule_label G_Rule_label
  have G_check_fact : FnOk PP w K mg base CX0 5 (ga K "check_fact") f_check_fact ["value"] (spG (ga K) 1 phi_check_fact) := ok_check_fact T F_check_fact F_is_fact G_is_fact
  have G_check_question : FnOk PP w K mg base CX0 1 (ga K "check_question") f_check_question ["value"] (spG (ga K) 1 phi_check_question) := ok_check_question T F_check_question 
  have G_check_store : FnOk PP w K mg base CX0 6 (ga K "check_store") f_check_store ["value"] (spG (ga K) 1 phi_check_store) := ok_check_store T F_check_store F_is_store G_is_store
  have G_led_on : FnOk PP w K mg base CX0 2 (ga K "led_on") f_led_on ["names", "pattern", "fact"] (spG (ga K) 3 phi_led_on) := ok_led_on T F_led_on F_is_variable G_is_variable
  have G_keeps_apart : FnOk PP w K mg base CX0 1 (ga K "keeps_apart") f_keeps_apart ["names", "pairs"] (spG (ga K) 2 phi_keeps_apart) := ok_keeps_apart T F_keeps_apart 
  have G_matches_of : FnOk PP w K mg base CX0 3 (ga K "matches_of") f_matches_of ["told", "pairs", "denied", "facts"] (spG (ga K) 4 phi_matches_of) := ok_matches_of T F_matches_of F_kind_of G_kind_of F_led_on G_led_on F_keeps_apart G_keeps_apart F_filled G_filled
  have G_matches_in : FnOk PP w K mg base CX0 4 (ga K "matches_in") f_matches_in ["thing", "facts"] (spG (ga K) 2 phi_matches_in) := ok_matches_in T F_matches_in F_matches_of G_matches_of F_Rule_denied G_Rule_denied F_Rule_pairs G_Rule_pairs F_Question_pairs G_Question_pairs F_Rule_told G_Rule_told F_Question_told G_Question_told
  have G_match_names : FnOk PP w K mg base CX0 3 (ga K "match_names") f_match_names ["told", "names"] (spG (ga K) 2 phi_match_names) := ok_match_names T F_match_names F_variables_of G_variables_of
  have G_as_facts : FnOk PP w K mg base CX0 1 (ga K "as_facts") f_as_facts ["store"] (spG (ga K) 1 phi_as_facts) := ok_as_facts T F_as_facts 
  have G_variables : FnOk PP w K mg base CX0 3 (ga K "variables") f_variables ["question"] (spG (ga K) 1 phi_variables) := ok_variables T F_variables F_check_question G_check_question F_variables_of G_variables_of F_Rule_told G_Rule_told F_Question_told G_Question_told
  have G_matches : FnOk PP w K mg base CX0 7 (ga K "matches") f_matches ["question", "store"] (spG (ga K) 2 phi_matches) := ok_matches T F_matches F_check_question G_check_question F_check_store G_check_store F_matches_in G_matches_in F_as_facts G_as_facts F_match_names G_match_names F_Rule_told G_Rule_told F_Question_told G_Question_told
  have G_count_matches : FnOk PP w K mg base CX0 8 (ga K "count_matches") f_count_matches ["question", "store"] (spG (ga K) 2 phi_count_matches) := ok_count_matches T F_count_matches F_matches G_matches
  have G_matches_with : FnOk PP w K mg base CX0 7 (ga K "matches_with") f_matches_with ["question", "store", "fact"] (spG (ga K) 3 phi_matches_with) := ok_matches_with T F_matches_with F_check_question G_check_question F_check_store G_check_store F_check_fact G_check_fact F_Rule_told G_Rule_told F_Question_told G_Question_told F_matches_in G_matches_in F_as_facts G_as_facts F_filled G_filled F_match_names G_match_names
  have G_steps_of : FnOk PP w K mg base CX0 4 (ga K "steps_of") f_steps_of ["told", "pairs", "facts"] (spG (ga K) 3 phi_steps_of) := ok_steps_of T F_steps_of F_variables_of G_variables_of F_is_variable G_is_variable F_matches_of G_matches_of
  have G_partials : FnOk PP w K mg base CX0 7 (ga K "partials") f_partials ["question", "store"] (spG (ga K) 2 phi_partials) := ok_partials T F_partials F_check_question G_check_question F_check_store G_check_store F_steps_of G_steps_of F_as_facts G_as_facts F_Rule_pairs G_Rule_pairs F_Question_pairs G_Question_pairs F_Rule_told G_Rule_told F_Question_told G_Question_told
  have G_orders_of : FnOk PP w K mg base CX0 9 (ga K "orders_of") f_orders_of ["places"] (spG (ga K) 1 (phi_orders_of 8)) := ok_orders_of T F_orders_of  8
  have G_best_order : FnOk PP w K mg base CX0 10 (ga K "best_order") f_best_order ["question", "store"] (spG (ga K) 2 phi_best_order) := ok_best_order T F_best_order F_check_question G_check_question F_check_store G_check_store F_Rule_told G_Rule_told F_Question_told G_Question_told F_orders_of G_orders_of F_steps_of G_steps_of F_as_facts G_as_facts F_Rule_pairs G_Rule_pairs F_Question_pairs G_Question_pairs
  have G__law_mixed : FnOk PP w K mg base CX0 1 (ga K "_law_mixed") f__law_mixed ["_law_seed", "_law_turn", "_law_at"] (spG (ga K) 3 phi__law_mixed) := ok__law_mixed T F__law_mixed 
  have G__law_draw : FnOk PP w K mg base CX0 2 (ga K "_law_draw") f__law_draw ["_law_purse_here", "_law_many"] (spG (ga K) 2 phi__law_draw) := ok__law_draw T F__law_draw F__law_mixed G__law_mixed
  have G__law_one_of : FnOk PP w K mg base CX0 3 (ga K "_law_one_of") f__law_one_of ["_law_purse_here", "_law_some"] (spG (ga K) 2 phi__law_one_of) := ok__law_one_of T F__law_one_of F__law_draw G__law_draw
  have G__law_parts : FnOk PP w K mg base CX0 4 (ga K "_law_parts") f__law_parts ["_law_purse_here"] (spG (ga K) 1 phi__law_parts) := ok__law_parts T F__law_parts F__law_one_of G__law_one_of F__law_draw G__law_draw
  have G__law_bags : FnOk PP w K mg base CX0 4 (ga K "_law_bags") f__law_bags ["_law_purse_here"] (spG (ga K) 1 phi__law_bags) := ok__law_bags T F__law_bags F__law_draw G__law_draw F__law_one_of G__law_one_of
  have G__law_made_right : FnOk PP w K mg base CX0 7 (ga K "_law_made_right") f__law_made_right ["_law_body", "_law_gaps", "_law_bars", "_law_tops"] (spG (ga K) 4 phi__law_made_right) := ok__law_made_right T F__law_made_right F_Rule_init G_Rule_init F_Rule_eq G_Rule_eq F_Question_eq G_Question_eq F_Question_init G_Question_init F_Book_init G_Book_init F_Book_eq G_Book_eq F_Book_without G_Book_without F_Book_rule G_Book_rule
  exact ok_law TL F_law F__law_purses (ok__law_purses TL F__law_purses F__law_purse (ok__law_purse TL F__law_purse)) F__law_parts G__law_parts F__law_bags G__law_bags F__law_draw G__law_draw F_Question_init G_Question_init F_matches G_matches F_variables G_variables F_count_matches G_count_matches F_partials G_partials F_best_order G_best_order F_matches_with G_matches_with F__law_made_right G__law_made_right
end
end K12
open PySem PySem.W PySem.Calls PyProof.Rows
theorem PySem.Challenge.cw_neverapart_k12_matching_by_name_holds : PySem.Challenge.rw_neverapart_k12_matching_by_name.Holds := by
  w_on; o_law
  refine HandSHeadRun.head_any (r := OpenLaw.row PySem.Challenge.rw_neverapart_k12_matching_by_name) (q := view (OpenLaw.row PySem.Challenge.rw_neverapart_k12_matching_by_name).prog [55]) (H := K12.hk) (ob := K12.ob) (M := 20000) (loose := K12.loose) (d := HandSHeadRun.topDef (OpenLaw.row PySem.Challenge.rw_neverapart_k12_matching_by_name).prog 55) (kwd := []) K12.ob_eq
    (by kernel_rfl) (fun s => by kernel_rfl) K12.run (by kernel_rfl) (by kernel_rfl) (by kernel_rfl) (by rfl) (by first | assumption | decide +kernel) (by decide +kernel) ⟨rfl, rfl, rfl, rfl, rfl, by decide +kernel⟩ ?hw ?hc
  case hw => w_witness2
  case hc =>
    refine NE.walk_ofG (l := PySem.Challenge.rw_neverapart_k12_matching_by_name) (n := 63) (k := 11) (x := "_law_script") (CX := L2.CX0) rfl (by decide) (by kernel_rfl) ⟨rfl, by decide, by decide⟩ ?F fun _ _ _ _ z => z.elim
    intro w mg fa h Y G hmg0
    obtain ⟨K, KX, c⟩ := Y
    have hmg : mg ("law" : PySem.Str) = some (.ref fa) := by
      have e : (HandSHeadRun.topDef (OpenLaw.row PySem.Challenge.rw_neverapart_k12_matching_by_name).prog 55).name = ("law" : PySem.Str) := by kernel_rfl
      rw [← e]
      exact hmg0
    obtain ⟨fd, hb, hF⟩ := K12.facts_of (w := w) KX G hmg c
    exact ⟨K, fd, K12.spLaw K, KX, hb, fun H a ns hl _ hS => ⟨a, ns, rfl, Nat.le_trans hl (by decide), hS, fun _ => rfl⟩, fun base h1 h2 => NE.FnG.of (hF base h1 h2)⟩
