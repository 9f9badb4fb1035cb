import PyProof.Rows.All
import Wide.All
import OpenK.AllK
import Wide.FinOn
import KE.KExcSuper
import HandS.Base
import HandS.Call
import HandS.Exc
import HandS.Defaults
import HandS.ForMost
import HandS.IsInst
import KE.KExcIs
import HandS.HeadEnd
import HandS.Head0
import HandS.Head1
import HandS.Head2
import HandS.HeadHook1
import HandS.HeadHook2
import HandS.Property
import HandS.TupAny
import HandS.Wide
import HandS.Deep
import HandS.Conv
import HandS.More
import HandS.Zip
import PySem.Challenge.RW_neverapart_k01_errors_made
import HandS.Evl
import HandS.Walk
set_option Elab.async false
set_option linter.all false
set_option maxRecDepth 100000
set_option maxHeartbeats 2000000
/-! Own errors of the form: __init__(self, f=None) says super().__init__() and self.f = f; made as values. -/
namespace NE
open PySem PySem.W PySem.Calls PyProof.Rows
def iA (f : PySem.Str) (p1 p2 p3 : Pos) : Arguments := { posonlyargs := [], args := [{ arg := "self", annotation := none, pos := p1 }, { arg := f, annotation := none, pos := p2 }], vararg := none, kwonlyargs := [], kw_defaults := [], kwarg := none, defaults := [.Constant .none 0 p3] }
def iB (f : PySem.Str) (q1 q2 q3 q4 q5 q6 q7 q8 q9 : Pos) : List Stmt := [.Expr (.Call (.Attribute (.Call (.Name "super" q1) [] [] q2) "__init__" q3) [] [] q4) q5, .Assign [.Attribute (.Name "self" q6) f q7] (.Name f q8) q9]
def iS (f : PySem.Str) : Scope := { kind := .function, names := [(PySem.Str.ofString "self", .local), (f, .local), (PySem.Str.ofString "__class__", .free), (PySem.Str.ofString "super", .globalImplicit)], isGenerator := false, isCoroutine := false, more := [] }
/-- a field's name that is none of the other names -/
def fOk (f : PySem.Str) : Bool := !(f == ("self" : PySem.Str)) && (!(("__class__" : PySem.Str) == f) && (!(("super" : PySem.Str) == f) && (!(f == ("__debug__" : PySem.Str)) && !(("self" : PySem.Str) == f))))
structure FOk (f : PySem.Str) : Prop where
  s : (f == ("self" : PySem.Str)) = false
  c : (("__class__" : PySem.Str) == f) = false
  u : (("super" : PySem.Str) == f) = false
  d : (f == ("__debug__" : PySem.Str)) = false
  t : (("self" : PySem.Str) == f) = false
theorem fOk_of {f : PySem.Str} (h : fOk f = true) : FOk f := by
  unfold fOk at h
  simp only [Bool.and_eq_true, Bool.not_eq_true'] at h
  exact ⟨h.1, h.2.1, h.2.2.1, h.2.2.2.1, h.2.2.2.2⟩
/-- what the written part says of the class x at C, its __init__ at fI, that one's code at cda and cell at cc -/
theorem fOk4 {f : PySem.Str} (h : f = "value" ∨ f = "ring" ∨ f = "most" ∨ f = "conflicts") : FOk f := by
  rcases h with rfl | rfl | rfl | rfl <;> exact fOk_of (by decide)
structure ExTxt (prog : Program) (K : Frag) (mg : PySem.Str → Option Value) (x f : PySem.Str) (C fI cda cc : Addr) : Prop where
  f4 : f = "value" ∨ f = "ring" ∨ f = "most" ∨ f = "conflicts"
  gC : mg x = some (.ref C)
  gS : mg "super" = none
  kC : keepIn K (.ref C) = true
  ini : excInitIn K C HandSPX.veTail "ValueError.__new__" = true
  iC : findIn K (.ref C) "__init__" = some (some (.ref fI))
  sup : ks_superIn K C C "__init__" = some (some (.builtin "ValueError.__init__"))
  sVE : subIn K (.ref C) (.type "ValueError") = some true
  sBE : subIn K (.ref C) (.type "BaseException") = some true
  slf : mroIn K C (.ref C) = some true
  thr : nsIn K cStatics "thirdparty.any" = some none
  sa : findIn K (.ref C) "__setattr__" = some (some (.builtin "object.__setattr__"))
  ga : findIn K (.ref C) "__getattribute__" = some (some (.builtin "BaseException.__getattribute__"))
  gg : findIn K (.ref C) "__getattr__" = some none
  no : findIn K (.ref C) f = some none
  cls : ∃ cd, clsIn K C = some cd ∧ HandSPX.refsVE cd.mro = true ∧ cd.hasDict = true
  fn : ∃ (od : Option Addr) (qual : PySem.Str) (dV kV doc pm : Value) (an : Option Addr) (ct : Value) (osl : Array (Option Value)) (p1 p2 p3 q1 q2 q3 q4 q5 q6 q7 q8 q9 : Pos),
    K.lookup fI = some ⟨.type "function", od, .func (fnX "__init__" qual (iA f p1 p2 p3) (iB f q1 q2 q3 q4 q5 q6 q7 q8 q9) (iS f) [("__class__", cc)] dV kV doc pm an (.ref cda) ct), osl⟩ ∧ codeIn K (.ref cda) qual = true ∧ (q3.endLine == q4.line) = true ∧
    ∃ (T : Addr) (o : Obj) (n : Nat), dV = .ref T ∧ K.lookup T = some o ∧ o.data = .seq #[.none] n
  code : ∃ (ccl : Value) (cdd : Option Addr) (vs : Array Value) (ccs : Array (Option Value)) (file : PySem.Str) (tf : Tok), K.lookup cda = some ⟨ccl, cdd, .fields vs, ccs⟩ ∧ vs[2]? = some (.str file tf) ∧ ((prog.main.file : PySem.Str) == file) = true
  cell : ∃ (cl : Value) (cld : Option Addr) (csl : Array (Option Value)), K.lookup cc = some ⟨cl, cld, .cell (some (.ref C)), csl⟩
  top : (prog.main.scope.names.lookup ("super" : PySem.Str)).isSome = false
/-- what __init__ leaves of a fresh error at x -/
structure InitEnd (h h' : Heap) (x C dx t1 : Addr) (f : PySem.Str) (v : Value) : Prop where
  keep : ∀ b o, b ≠ x → h.get? b = some o → h'.get? b = some o
  obj : h'.get? x = some { cls := .ref C, dict := some dx, data := .fields #[.ref t1, .none, .none, .none, .bool false, .none] }
  dbig : h.objs.size ≤ dx
  dne : dx ≠ x
  ns : h'.Ns1 dx (fun y => if y = f then some v else none)
section
variable {prog : Program} {w : World} {A : Around} {E : Value → Shared → Prop} {h : Heap} {g : Array GenState} {d : Drawn} {t : Nat} {os : OsState}
theorem call_at {o : Expr} {name : PySem.Str} {apos pos : Pos} {env : Env} (hline : (apos.endLine == pos.line) = true) : eval (.Call (.Attribute o name apos) [] [] pos) env = (do
      let ov ← attributeBase o name env (eval o env)
      standAt apos.atName
      let (f, first) ← holding [ov] (getMethod ov name (do return (← importBound o env).getD true))
      callWith pos f first (backTo pos (starEach [] env)) []) := by
  have hpos : methodCallPos true o env apos pos = pure pos := by unfold methodCallPos; simp [hline]
  rw [arm_eval_Call]
  show (do
    let ov ← attributeBase o name env (eval o env)
    standAt apos.atName
    let (f, first) ← holding [ov] (getMethod ov name (do return (← importBound o env).getD true))
    let callPos ← methodCallPos true o env apos pos
    callWith callPos f first (backTo pos (starEach [] env)) []) = _
  rw [hpos]
  rfl
/-- the bound built-in __init__ called without arguments -/
theorem mw_call {nm q : PySem.Str} {C N x u t0 : Addr} {bs bm : List Value} {hdct : Bool} {sn : List PySem.Str} {sub : List Value} {ab : Bool} {col : Option Bool} {dd : Option Addr} {k0 k1 k2 k3 k5 : Option Value} {Q : Value → Shared → Prop}
    (hC : h.get? C = some (excClassObj nm q C N bs bm hdct sn sub ab col dd k0 k1 k2 k3 k5 "ValueError.__new__")) (he : h.get? x = some (HandSPX.excO C t0)) (hu : h.get? u = some (kxs_mw "ValueError.__init__" x))
    (hq : ∀ h' t1, (∀ b o, b ≠ x → h.get? b = some o → h'.get? b = some o) → h'.get? x = some (HandSPX.excO C t1) → Q .none ⟨h', g, d, t, os⟩) :
    wpAny (model prog w) A (call (.ref u) []) Q E ⟨h, g, d, t, os⟩ := by
  refine wpAny_call (codeAny_of_tree ?_)
  show wpAny _ A.in1 (callAny (.ref u) ⟨[], []⟩) _ _ _
  simp only [callAny]
  refine wpAny_bind (wpAny_load hu ?_)
  simp only [kxs_mw, show (Value.type "method-wrapper" == Value.type "method" || Value.type "method-wrapper" == Value.type "builtin_function_or_method" || Value.type "method-wrapper" == Value.type "method-wrapper") = true by decide, if_true]
  refine KFB.if_so (by decide) ?_
  refine wpAny_bind (check_bound_init F.excBase_ValueError.toExcCallFacts hC he rfl ?_)
  refine wpAny_bind (wpAny_pure (wpAny_pure ?_))
  refine ⟨plainId_quiet F.excBase_ValueError.init.plain _, codeAny_builtin F.excBase_ValueError.initEntry ?_⟩
  exact exc_init_tree (cls := .ref C) (t0 := t0) (dv := none) (c2 := .none) (c3 := .none) (b4 := .bool false) he (Nat.zero_le _) fun h' k e1 _ => hq h' _ k e1
end
section
variable {prog : Program} {w : World} {A : Around} {R : Result → Shared → Prop} {s : Shared} {K : Frag} {mg : PySem.Str → Option Value} {base : Heap} {x f : PySem.Str} {C fI cda cc : Addr}
theorem boot_super1 : bootBuiltins "super" = some (.type "super") := by decide +kernel
theorem ex_init (T : ExTxt prog K mg x f C fI cda cc) (M : L2.Mod K mg base) (hb : ∀ b o, base.get? b = some o → s.heap.get? b = some o) {fd : FuncData} (hfd : ∃ (oc : Value) (od : Option Addr) (osl : Array (Option Value)), K.lookup fI = some ⟨oc, od, .func fd, osl⟩)
    {e t0 : Addr} {v : Value} {args : Args} (hx : s.heap.get? e = some (HandSPX.excO C t0)) (hnx : K.lookup e = none) (hroom : A.depth < recursionLimit) (hbind : BindsTo s fd args [("self", .ref e), (f, v)])
    (hq : ∀ h' tk dx t1, InitEnd s.heap h' e C dx t1 f v → R (.ok (.ret .none)) { s with heap := h', toks := tk }) :
    codeAny (model prog w) A (.call (.ref fI) args) R s := by
  obtain ⟨od, qual, dV, kV, doc, pm, an, ct, osl, p1, p2, p3, q1, q2, q3, q4, q5, q6, q7, q8, q9, ho, hcd, hline, _⟩ := T.fn
  obtain ⟨oc', od', osl', ho'⟩ := hfd
  obtain rfl : fd = fnX "__init__" qual (iA f p1 p2 p3) (iB f q1 q2 q3 q4 q5 q6 q7 q8 q9) (iS f) [("__class__", cc)] dV kV doc pm an (.ref cda) ct := by
    rw [ho] at ho'
    cases ho'
    rfl
  obtain ⟨ccl, cdd, vs, ccs, file, tf, hcode, hvs, hfile⟩ := T.code
  obtain ⟨cl, cld, csl, hcell⟩ := T.cell
  obtain ⟨cd, hcl, hmro, hhd⟩ := T.cls
  have X : K.In s.heap := M.kin.keeps hb
  have hlim : s.heap.NoLimit := M.nolimit.keeps hb
  obtain ⟨nm, N', qn, bs, bm, hdct, sn, sub, ab, col, dd, k0, k1, k2, k3, k5, hC, hT⟩ := excInit_of X T.ini
  obtain ⟨mb, hb1, hb2⟩ := M.blt
  have l1 : (iS f).names.lookup ("super" : PySem.Str) = some .globalImplicit := by
    show List.lookup ("super" : PySem.Str) [(PySem.Str.ofString "self", NameKind.local), (f, .local), (PySem.Str.ofString "__class__", .free), (PySem.Str.ofString "super", .globalImplicit)] = _
    simp only [List.lookup, (fOk4 T.f4).u]
    rfl
  have l2 : (iS f).names.lookup ("__class__" : PySem.Str) = some .free := by
    show List.lookup ("__class__" : PySem.Str) [(PySem.Str.ofString "self", NameKind.local), (f, .local), (PySem.Str.ofString "__class__", .free), (PySem.Str.ofString "super", .globalImplicit)] = _
    simp only [List.lookup, (fOk4 T.f4).c]
    rfl
  have l3 : (iS f).names.lookup ("self" : PySem.Str) = some .local := rfl
  have l4 : (iS f).names.lookup f = some .local := by
    show List.lookup f [(PySem.Str.ofString "self", NameKind.local), (f, .local), (PySem.Str.ofString "__class__", .free), (PySem.Str.ofString "super", .globalImplicit)] = _
    have e1 : (f == PySem.Str.ofString "self") = false := (fOk4 T.f4).s
    simp only [List.lookup, e1, beq_self_eq_true]
  have hm1 : ([("self", Value.ref e), (f, v)] : List (PySem.Str × Value)).reverse.lookup ("self" : PySem.Str) = some (.ref e) := by
    show List.lookup ("self" : PySem.Str) [(f, v), ("self", Value.ref e)] = _
    simp only [List.lookup, (fOk4 T.f4).t, beq_self_eq_true]
  have hm2 : ([("self", Value.ref e), (f, v)] : List (PySem.Str × Value)).reverse.lookup f = some v := by
    show List.lookup f [(f, v), ("self", Value.ref e)] = _
    simp only [List.lookup, beq_self_eq_true]
  refine ks_codeAny_call_defAt (fd := fnX "__init__" qual (iA f p1 p2 p3) (iB f q1 q2 q3 q4 q5 q6 q7 q8 q9) (iS f) [("__class__", cc)] dV kV doc pm an (.ref cda) ct) (binds := [("self", .ref e), (f, v)]) hroom (X _ _ ho) rfl hlim (codeRec_of X hcd) rfl hbind ?_ ?_ (fun h₁ hns hk₁ => ?_)
  · intro y hy
    have hy' : y ∈ [(PySem.Str.ofString "self", NameKind.local), (f, .local), (PySem.Str.ofString "__class__", .free), (PySem.Str.ofString "super", .globalImplicit)] := hy
    simp only [List.mem_cons, List.not_mem_nil, or_false] at hy'
    rcases hy' with rfl | rfl | rfl | rfl <;> (intro z; cases z)
  · intro y hy
    simp only [List.mem_cons, List.not_mem_nil, or_false] at hy
    rcases hy with rfl | rfl
    · exact l3
    · exact l4
  have X₁ : K.In h₁ := X.keeps hk₁
  have hbb : ∀ b o, base.get? b = some o → h₁.get? b = some o := fun b o z => hk₁ b o (hb b o z)
  have hx₁ := hk₁ _ _ hx
  have hxL : e ≠ s.heap.objs.size := Nat.ne_of_lt (Heap.lt_size hx)
  obtain ⟨oD, hD1, hD2⟩ : ∃ oD, h₁.get? C = some oD ∧ oD.data = .cls cd := by
    unfold clsIn at hcl
    split at hcl
    · rename_i c d cd' sl hoo
      cases hcl
      exact ⟨_, X₁ _ _ hoo, rfl⟩
    · cases hcl
  have hne : e ≠ C := by
    rintro rfl
    rw [hx₁] at hD1
    cases hD1
    cases hD2
  show _root_.PySem.wpAt (model prog w) (A.deeper (ksEnv qual (iS f) s.heap.objs.size fI (.ref cda) cc)) (.func (iB f q1 q2 q3 q4 q5 q6 q7 q8 q9) (ksEnv qual (iS f) s.heap.objs.size fI (.ref cda) cc))
    (execs [.Expr (.Call (.Attribute (.Call (.Name "super" q1) [] [] q2) "__init__" q3) [] [] q4) q5, .Assign [.Attribute (.Name "self" q6) f q7] (.Name f q8) q9] (ksEnv qual (iS f) s.heap.objs.size fI (.ref cda) cc)) _ _ _
  refine ks_wpAt_execs_cons (ks_wpAt_Expr_any (ks_wpAt_MethodCall ?_ (call_at hline)))
  refine ks_wpAt_super_base (env := ksEnv qual (iS f) s.heap.objs.size fI (.ref cda) cc) l1 l2 (by decide) rfl (X₁ _ _ ho) rfl rfl rfl (X₁ _ _ hcode) rfl hvs hfile T.top ?_
  refine ks_loadName_global rfl l1 (loadGlobal_builtin (env := ksEnv qual (iS f) s.heap.objs.size fI (.ref cda) cc) (M.glob.keeps hbb) T.gS (hb1.keeps hbb) ((hb2 _ (by decide)).trans boot_super1) ⟨rfl, ?_⟩)
  refine wpAny_loadName_free rfl l2 rfl ⟨_, X₁ _ _ hcell, rfl⟩ ?_
  refine wpAny_loadName_local rfl l3 hns hm1 ?_
  refine ks_wpAny_isType_cls hD1 hD2 ⟨rfl, ?_⟩
  refine ks_wpAny_call_super hD1 hD2 hx₁ rfl (fun c z => by cases z) (looks_mroIn X₁ T.slf) (fun h₂ hso k₂ => ?_)
  have X₂ : K.In h₂ := X₁.keeps k₂
  have hx₂ := k₂ _ _ hx₁
  have I₂ : InstAt h₂ e (HandSPX.excO C t0) C none := ⟨hx₂, rfl, rfl, trivial⟩
  have hsup : alongIn K "__init__" ((cd.mro.dropWhile (· != .ref C)).drop 1) = some (some (.builtin "ValueError.__init__")) := by
    have z := T.sup
    unfold ks_superIn at z
    rw [hcl] at z
    exact z
  refine kxs_getMethod kxs_ValueError hso (looks_opaque X₂ T.thr) (l₀ := cd.mro) (fun A Q E s k q => wpAny_bind ((looks_clsIn X₂ hcl) A _ E s k (wpAny_pure q))) rfl X₂ hsup (I₂.type.andThen (looks_subIn X₂ T.sVE)) hne (by decide) ?_
  have k₃ : ∀ b o, h₂.get? b = some o → (h₂.push (kxs_mw "ValueError.__init__" e)).get? b = some o := fun b o z => Heap.get?_push_of_some _ z
  have hmw : (h₂.push (kxs_mw "ValueError.__init__" e)).get? h₂.objs.size = some (kxs_mw "ValueError.__init__" e) := Heap.get?_push_at rfl rfl
  refine kxs_callWith (i := "ValueError.__init__") (x := e) rfl (evalArgs_empty ⟨hmw, ?_⟩)
  refine mw_call (k₃ _ _ (k₂ _ _ (hk₁ _ _ hC))) (k₃ _ _ hx₂) hmw fun h₄ t1 k₄ hx₄ => ?_
  have old : ∀ b o, b ≠ e → h₁.get? b = some o → h₄.get? b = some o := fun b o hbe z => k₄ b o hbe (k₃ _ _ (k₂ _ _ z))
  have X₄ : K.In h₄ := fun a o z => old a o (fun q => by rw [q, hnx] at z; cases z) (X₁ _ _ z)
  have hns₄ : h₄.Ns s.heap.objs.size (fun y => ([("self", Value.ref e), (f, v)] : List (PySem.Str × Value)).reverse.lookup y) := by
    obtain ⟨oL, es, ep, hL, r⟩ := hns
    exact ⟨oL, es, ep, old _ _ hxL.symm hL, r⟩
  refine wpAt_of_wpAny ?_
  refine wpAny_execs_cons (plainObj_wpAny_Assign_Attribute ?_ (by rfl))
  refine wpAny_Name (wpAny_loadName_local (env := ksEnv qual (iS f) s.heap.objs.size fI (.ref cda) cc) rfl l4 hns₄ hm2 ?_) (fOk4 T.f4).d
  refine wpAny_Name (wpAny_loadName_local (env := ksEnv qual (iS f) s.heap.objs.size fI (.ref cda) cc) rfl l3 hns₄ hm1 ?_) (by decide)
  refine set_plain X₄ (ox := HandSPX.excO C t1) (od := none) ⟨hx₄, rfl, rfl, trivial⟩ T.sa ?_
  refine HandSPX.exc_osa X₄ hx₄ hcl hmro hhd T.no (fun h₅ tk₅ dx k₅ dn dne hx₅ hn₅ => ?_)
  show wpAny _ _ (execs _ _) _ _ _
  refine wpAny_execs_nil (hq h₅ tk₅ dx t1 ⟨fun b o hbe z => k₅ b o hbe (old b o hbe (hk₁ b o z)), hx₅, Nat.le_of_lt (Nat.lt_of_lt_of_le hns₄.lt dn), dne, hn₅⟩)
/-- an error made: a new object e of the class C whose own dict d holds f = v -/
structure OwnMade (h h' : Heap) (e C d : Addr) (f : PySem.Str) (v : Value) : Prop where
  keep : ∀ b o, h.get? b = some o → h'.get? b = some o
  new : h.objs.size ≤ e
  obj : ∃ t1, h'.get? e = some { cls := .ref C, dict := some d, data := .fields #[.ref t1, .none, .none, .none, .bool false, .none] }
  dbig : h.objs.size ≤ d
  dne : d ≠ e
  ns : h'.Ns1 d (fun y => if y = f then some v else none)
theorem ex_bind {qual f : PySem.Str} {p1 p2 p3 : Pos} {body : List Stmt} {scope : Scope} {cl : List (PySem.Str × Addr)} {TT : Addr} {kV doc pm cdv ct : Value} {an : Option Addr} {s : Shared} {o : Obj} {n : Nat} {args : Args} {r : List (PySem.Str × Value)} (X : K.In s.heap) (lT : K.lookup TT = some o) (oT : o.data = .seq #[.none] n)
    (h : ∃ k, bindArgs (fnX "__init__" qual (iA f p1 p2 p3) body scope cl (.ref TT) kV doc pm an cdv ct) args = seqItems? (.ref TT) >>= k ∧ k (some #[.none]) = pure r) : BindsTo s (fnX "__init__" qual (iA f p1 p2 p3) body scope cl (.ref TT) kV doc pm an cdv ct) args r := by
  refine L2.BindsTo.of_looks fun M => ?_
  obtain ⟨k, a1, a2⟩ := h
  rw [a1]
  exact L2.looks_items X lT oT (.of_pure a2)
theorem ex_fd (T : ExTxt prog K mg x f C fI cda cc) : ∃ fd, (∃ (oc : Value) (od : Option Addr) (osl : Array (Option Value)), K.lookup fI = some ⟨oc, od, .func fd, osl⟩) ∧
    (∀ (s : Shared) (e : Addr) (v : Value), K.In s.heap → BindsTo s fd ⟨[.ref e, v], []⟩ [("self", .ref e), (f, v)]) ∧ (∀ (s : Shared) (e : Addr), K.In s.heap → BindsTo s fd ⟨[.ref e], []⟩ [("self", .ref e), (f, .none)]) ∧
    (∀ (s : Shared) (e : Addr) (v : Value), K.In s.heap → BindsTo s fd ⟨[.ref e], [(f, v)]⟩ [("self", .ref e), (f, v)]) := by
  obtain ⟨od, qual, dV, kV, doc, pm, an, ct, osl, p1, p2, p3, q1, q2, q3, q4, q5, q6, q7, q8, q9, ho, hcd, hline, TT, o, n, rfl, lT, oT⟩ := T.fn
  have h4 := T.f4
  refine ⟨_, ⟨_, _, _, ho⟩, fun s e v X => ex_bind X lT oT ?_, fun s e X => ex_bind X lT oT ?_, fun s e v X => ex_bind X lT oT ?_⟩
  · rcases h4 with rfl | rfl | rfl | rfl <;> exact ⟨_, rfl, rfl⟩
  · rcases h4 with rfl | rfl | rfl | rfl <;> exact ⟨_, rfl, rfl⟩
  · rcases h4 with rfl | rfl | rfl | rfl <;> exact ⟨_, rfl, rfl⟩
theorem ex_made0 (T : ExTxt prog K mg x f C fI cda cc) (M : L2.Mod K mg base) (hb : ∀ b o, base.get? b = some o → s.heap.get? b = some o) {rest : List Value} {v : Value} (hrest : rest.length ≤ sizeLine) (hroom : A.depth + 1 < recursionLimit)
    (hbind : ∀ (fd : FuncData) (s : Shared) (e : Addr), K.In s.heap → (∀ (s : Shared) (e : Addr) (v : Value), K.In s.heap → BindsTo s fd ⟨[.ref e, v], []⟩ [("self", .ref e), (f, v)]) → (∀ (s : Shared) (e : Addr), K.In s.heap → BindsTo s fd ⟨[.ref e], []⟩ [("self", .ref e), (f, .none)]) → BindsTo s fd ⟨.ref e :: rest, []⟩ [("self", .ref e), (f, v)])
    (hq : ∀ h' tk e d, OwnMade s.heap h' e C d f v → R (.ok (.ret (.ref e))) { s with heap := h', toks := tk }) :
    codeAny (model prog w) A (.call (.ref C) ⟨rest, []⟩) R s := by
  have X : K.In s.heap := M.kin.keeps hb
  obtain ⟨fd, hfd, b1, b2, b3⟩ := ex_fd T
  obtain ⟨nm, N', qn, bs, bm, hdct, sn, sub, ab, col, dd, k0, k1, k2, k3, k5, hC, hT⟩ := excInit_of X T.ini
  obtain ⟨hp, g, dr, tk, os⟩ := s
  have k : ∀ b o, hp.get? b = some o → ((hp.push (kdv_tup rest)).push (HandSPX.excO C hp.objs.size)).get? b = some o := fun b o e => Heap.get?_push_of_some _ (Heap.get?_push_of_some _ e)
  have hget : ((hp.push (kdv_tup rest)).push (HandSPX.excO C hp.objs.size)).get? (hp.objs.size + 1) = some (HandSPX.excO C hp.objs.size) := by heap_get
  have hnx : K.lookup (hp.objs.size + 1) = none := by
    cases e : K.lookup (hp.objs.size + 1) with
    | none => rfl
    | some o =>
      have z : hp.get? (hp.objs.size + 1) = some o := X _ _ e
      exact absurd (Nat.lt_of_succ_lt (Heap.lt_size z)) (Nat.lt_irrefl _)
  have tI : typeIn K (.ref fI) = some (.type "function") := by
    obtain ⟨od, qual, dV, kV, doc, pm, an, ct, osl, p1, p2, p3, q1, q2, q3, q4, q5, q6, q7, q8, q9, ho, _⟩ := T.fn
    show (K.lookup fI).map (·.cls) = _
    rw [ho]
    rfl
  refine HandSPX.call_own F.excBase_ValueError hT hC (looks_findIn X T.iC) (fun self => bind_fn X self tI) hrest ?_
  refine ex_init (s := ⟨(hp.push (kdv_tup rest)).push (HandSPX.excO C hp.objs.size), g, dr, tk, os⟩) T M (fun b o z => k b o (hb b o z)) hfd hget hnx ?_ (hbind fd _ _ (X.keeps k) b1 b2) fun h' tk' dx t1 ⟨k', hx, dn, dne, hns⟩ => ?_
  · show A.depth + 1 < recursionLimit
    exact hroom
  · have old : ∀ b o, hp.get? b = some o → h'.get? b = some o := fun b o e => k' b o (Nat.ne_of_lt (Nat.lt_succ_of_lt (Heap.lt_size e))) (k b o e)
    have z : hp.objs.size + 1 + 1 ≤ dx := by
      have q := dn
      rw [show ((hp.push (kdv_tup rest)).push (HandSPX.excO C hp.objs.size)).objs.size = hp.objs.size + 1 + 1 by rw [Heap.size_push, Heap.size_push]] at q
      exact q
    exact ⟨rfl, hq h' tk' (hp.objs.size + 1) dx ⟨old, Nat.le_succ _, ⟨_, hx⟩, Nat.le_trans (Nat.le_trans (Nat.le_succ _) (Nat.le_succ _)) z, dne, hns⟩⟩
/-- C(v) -/
theorem ex_made (T : ExTxt prog K mg x f C fI cda cc) (M : L2.Mod K mg base) (hb : ∀ b o, base.get? b = some o → s.heap.get? b = some o) {v : Value} (hroom : A.depth + 1 < recursionLimit)
    (hq : ∀ h' tk e d, OwnMade s.heap h' e C d f v → R (.ok (.ret (.ref e))) { s with heap := h', toks := tk }) : codeAny (model prog w) A (.call (.ref C) ⟨[v], []⟩) R s :=
  ex_made0 T M hb (by show 1 ≤ sizeLine; decide) hroom (fun fd s e X b1 _ => b1 s e v X) hq
/-- C() -/
theorem ex_bare (T : ExTxt prog K mg x f C fI cda cc) (M : L2.Mod K mg base) (hb : ∀ b o, base.get? b = some o → s.heap.get? b = some o) (hroom : A.depth + 1 < recursionLimit)
    (hq : ∀ h' tk e d, OwnMade s.heap h' e C d f .none → R (.ok (.ret (.ref e))) { s with heap := h', toks := tk }) : codeAny (model prog w) A (.call (.ref C) ⟨[], []⟩) R s :=
  ex_made0 T M hb (Nat.zero_le _) hroom (fun fd s e X _ b2 => b2 s e X) hq
end
end NE

set_option Elab.async false
set_option linter.all false
set_option maxRecDepth 100000
set_option maxHeartbeats 2000000
namespace NE
open PySem PySem.W PySem.Calls PyProof.Rows HandSPX
section
variable {prog : Program} {w : World} {M : Model} {A : Around} {E : Value → Shared → Prop} {R : Result → Shared → Prop} {h : Heap} {g : Array GenState} {d : Drawn} {t : Nat} {os : OsState}
variable {nm q : PySem.Str} {C N : Addr} {bs bm bmB : List Value} {hdct : Bool} {sn : List PySem.Str} {sub : List Value} {ab : Bool} {col : Option Bool} {dd : Option Addr} {k0 k1 k2 k3 k5 : Option Value} {B newId initId : String} {f : PySem.Str} {v : Value}
/-- the built-in __new__ looks at no keyword -/
theorem kw_check_new (F : ExcBaseFacts B newId initId bmB) (hT : ∀ X : String, bm.contains (.type X) = bmB.contains (.type X)) {Q : Unit → Shared → Prop}
    (hC : h.get? C = some (excClassObj nm q C N bs bm hdct sn sub ab col dd k0 k1 k2 k3 k5 newId)) (hq : Q () ⟨h, g, d, t, os⟩) : wpAny M A (checkBuiltinCall newId ⟨[.ref C], [(f, v)]⟩) Q E ⟨h, g, d, t, os⟩ := by
  have c1 : (Value.ref C :: bm).contains (.type B) = true := by rw [List.contains_cons, hT, F.hasB, Bool.or_true]
  have c2 := F.noStar
  simp only [checkBuiltinCall, F.newKind, F.newSplit, F.newRow]
  repeat (first | refine wpAny_loadPart_at hC ?_ | (refine wpAny_isSubtype_exc hC ?_; rw [c1]) | refine wpAny_staticBase_exc hC ?_ | refine wpAny_madeBy_exc hC ?_ | simp only [bne_self_eq_false, Bool.false_eq_true, if_false] | wp_step)
  exact hq
theorem kw_new (F : ExcBaseFacts B newId initId bmB) (hT : ∀ X : String, bm.contains (.type X) = bmB.contains (.type X))
    (hC : h.get? C = some (excClassObj nm q C N bs bm hdct sn sub ab col dd k0 k1 k2 k3 k5 newId))
    (hq : R (.ok (.ret (.ref (h.objs.size + 1)))) ⟨(h.push { cls := .type "tuple", data := .seq ([] : List Value).toArray }).push { cls := .ref C, data := .fields #[.ref h.objs.size, .none, .none, .none, .bool false, .none] }, g, d, t, os⟩) :
    codeAny (model prog w) A (.builtin newId ⟨[.ref C], [(f, v)]⟩) R ⟨h, g, d, t, os⟩ := by
  have c0 := F.ends
  have c1 : (Value.ref C :: bm).contains (.type B) = true := by rw [List.contains_cons, hT, F.hasB, Bool.or_true]
  have c2 : (Value.ref C :: bm).contains (.type "AttributeError") = false := by rw [List.contains_cons, hT, F.noAttr]; rfl
  have c3 : (Value.ref C :: bm).contains (.type "NameError") = false := by rw [List.contains_cons, hT, F.noName]; rfl
  have hrest : ([] : List Value).length ≤ sizeLine := Nat.zero_le _
  refine codeAny_builtinAt F.entry ?_
  unfold Builtin.«BaseException.__new__»
  refine _root_.PySem.wpAt_bind ?_
  show _root_.PySem.wpAt _ _ _ (stack >>= _) _ _ _
  refine _root_.PySem.wpAt_bind (_root_.PySem.wpAt_stack fun p below => _root_.PySem.wpAt_of_wpAny ?_)
  wp_walk
  refine _root_.PySem.wpAt_of_wpAny ?_
  rw [F.owner]
  repeat (first | with_reducible refine wpAny_madeHere_exc F.canon hC ?_ | with_reducible refine wpAny_loadPart_at hC ?_ | (with_reducible refine wpAny_isSubtype_exc hC ?_; first | rw [c1] | rw [c2] | rw [c3]) | wp_step)
  show R _ _
  rw [Heap.size_push]
  exact hq
theorem kw_type_call (F : ExcBaseFacts B newId initId bmB) (hT : ∀ X : String, bm.contains (.type X) = bmB.contains (.type X)) {fI : Addr} {Q : Fin → Shared → Prop}
    (hC : h.get? C = some (excClassObj nm q C N bs bm hdct sn sub ab col dd k0 k1 k2 k3 k5 newId))
    (hi : Looks (model prog w) h (typeLookup (.ref C) "__init__") (some (.ref fI))) (hb : ∀ self, Looks (model prog w) h (bindSpecial (.ref fI) self) (.ref fI, [self]))
    (hq : codeAny (model prog w) A (.call (.ref fI) ⟨[.ref (h.objs.size + 1)], [(f, v)]⟩)
      (fun r s' => match r with | .ok (.ret v) => v = .none ∧ Q (.done (.ret (.ref (h.objs.size + 1)))) s' | .ok _ => False | .error e => E e s') ⟨(h.push (kdv_tup [])).push (excO C h.objs.size), g, d, t, os⟩) :
    wpAny (model prog w) A (Builtin.«type.__call__» ⟨[.ref C], [(f, v)]⟩) Q E ⟨h, g, d, t, os⟩ := by
  repeat (first | with_reducible refine wpAny_loadPart_at hC ?_ | with_reducible refine wpAny_madeBy_exc hC ?_ | wp_step)
  refine codeAny_call_builtin_code (Code.quiet_builtin _ F.quiet) (kw_check_new F hT hC ?_)
  refine kw_new F hT hC ?_
  show wpAny _ _ _ _ _ _
  have k : ∀ b o, h.get? b = some o → ((h.push (kdv_tup [])).push (excO C h.objs.size)).get? b = some o := fun b o e => Heap.get?_push_of_some _ (Heap.get?_push_of_some _ e)
  have c1 := k _ _ hC
  have c2 : ((h.push (kdv_tup [])).push (excO C h.objs.size)).get? (h.objs.size + 1) = some (excO C h.objs.size) := by heap_get
  have c3 : (Value.ref C :: bm).contains (.ref C) = true := by simp
  have i1 := hi.keeps k
  have b1 := (hb (.ref (h.objs.size + 1))).keeps k
  unfold isInstance
  repeat (first | with_reducible refine wpAny_loadPart_at c2 ?_ | (with_reducible refine wpAny_isSubtype_exc c1 ?_; rw [c3]) | wp_step)
  show wpAny _ _ (typeLookup (.ref C) _) _ _ _
  refine i1.at ?_
  refine wpAny_holding (wpAny_bind (b1.at ?_))
  refine wpAny_bind (wpAny_call (codeAny_mono hq fun r s' z => ?_))
  rcases r with e | (v | _ | _ | _) <;> first | exact z | exact z.elim | skip
  obtain ⟨rfl, z⟩ := z
  first
    | exact wpAny_pure (wpAny_pure z)
    | (wp_walk; exact z)
theorem kw_call (F : ExcBaseFacts B newId initId bmB) (hT : ∀ X : String, bm.contains (.type X) = bmB.contains (.type X)) {fI : Addr}
    (hC : h.get? C = some (excClassObj nm q C N bs bm hdct sn sub ab col dd k0 k1 k2 k3 k5 newId))
    (hi : Looks (model prog w) h (typeLookup (.ref C) "__init__") (some (.ref fI))) (hb : ∀ self, Looks (model prog w) h (bindSpecial (.ref fI) self) (.ref fI, [self]))
    (hq : codeAny (model prog w) (A.under (.builtin "type.__call__" ⟨[.ref C], [(f, v)]⟩)) (.call (.ref fI) ⟨[.ref (h.objs.size + 1)], [(f, v)]⟩) (InitBack (h.objs.size + 1) R) ⟨(h.push (kdv_tup [])).push (excO C h.objs.size), g, d, t, os⟩) :
    codeAny (model prog w) A (.call (.ref C) ⟨[], [(f, v)]⟩) R ⟨h, g, d, t, os⟩ := by
  have f1 := tc_lookup
  have f2 := tc_bind (.ref C)
  have f3 : (⟨h, g, d, t, os⟩ : Shared).TypeIs (.ref C) "type" := ⟨_, hC, rfl⟩
  refine codeAny_of_tree ?_
  show wpAny _ _ (callAny (.ref C) _) _ _ _
  repeat (any_goals (first | assumption | with_reducible refine wpAny_loadPart_at hC ?_ | wp_step))
  refine ⟨rfl, ?_⟩
  refine codeAny_call_builtin_at (Code.quiet_builtin _ (by decide +kernel)) entry_typeCall (wpAny_check_type_call_sub hC (kw_type_call F hT hC hi hb ?_))
  refine codeAny_mono hq fun r s' z => ?_
  rcases r with e | (v | _ | _ | _) <;> exact z
end
section
variable {prog : Program} {w : World} {A : Around} {R : Result → Shared → Prop} {s : Shared} {K : Frag} {mg : PySem.Str → Option Value} {base : Heap} {x f : PySem.Str} {C fI cda cc : Addr}
/-- C(f = v) -/
theorem ex_kw (T : ExTxt prog K mg x f C fI cda cc) (M : L2.Mod K mg base) (hb : ∀ b o, base.get? b = some o → s.heap.get? b = some o) {v : Value} (hroom : A.depth + 1 < recursionLimit)
    (hq : ∀ h' tk e d, OwnMade s.heap h' e C d f v → R (.ok (.ret (.ref e))) { s with heap := h', toks := tk }) : codeAny (model prog w) A (.call (.ref C) ⟨[], [(f, v)]⟩) R s := by
  have X : K.In s.heap := M.kin.keeps hb
  obtain ⟨fd, hfd, b1, b2, b3⟩ := ex_fd T
  obtain ⟨nm, N', qn, bs, bm, hdct, sn, sub, ab, col, dd, k0, k1, k2, k3, k5, hC, hT⟩ := excInit_of X T.ini
  obtain ⟨hp, g, dr, tk, os⟩ := s
  have k : ∀ b o, hp.get? b = some o → ((hp.push (kdv_tup [])).push (excO C hp.objs.size)).get? b = some o := fun b o e => Heap.get?_push_of_some _ (Heap.get?_push_of_some _ e)
  have hget : ((hp.push (kdv_tup [])).push (excO C hp.objs.size)).get? (hp.objs.size + 1) = some (excO C hp.objs.size) := by heap_get
  have hnx : K.lookup (hp.objs.size + 1) = none := by
    cases e : K.lookup (hp.objs.size + 1) with
    | none => rfl
    | some o => exact absurd (Nat.lt_of_succ_lt (Heap.lt_size (X _ _ e))) (Nat.lt_irrefl _)
  have tI : typeIn K (.ref fI) = some (.type "function") := by
    obtain ⟨od, qual, dV, kV, doc, pm, an, ct, osl, p1, p2, p3, q1, q2, q3, q4, q5, q6, q7, q8, q9, ho, _⟩ := T.fn
    show (K.lookup fI).map (·.cls) = _
    rw [ho]
    rfl
  refine kw_call F.excBase_ValueError hT hC (looks_findIn X T.iC) (fun self => bind_fn X self tI) ?_
  refine ex_init (s := ⟨(hp.push (kdv_tup [])).push (excO C hp.objs.size), g, dr, tk, os⟩) T M (fun b o z => k b o (hb b o z)) hfd hget hnx ?_ (b3 _ _ v (X.keeps k)) fun h' tk' dx t1 ⟨k', hx, dn, dne, hns⟩ => ?_
  · show A.depth + 1 < recursionLimit
    exact hroom
  · have old : ∀ b o, hp.get? b = some o → h'.get? b = some o := fun b o e => k' b o (Nat.ne_of_lt (Nat.lt_succ_of_lt (Heap.lt_size e))) (k b o e)
    have z : hp.objs.size + 1 + 1 ≤ dx := by
      have q := dn
      rw [show ((hp.push (kdv_tup [])).push (excO C hp.objs.size)).objs.size = hp.objs.size + 1 + 1 by rw [Heap.size_push, Heap.size_push]] at q
      exact q
    exact ⟨rfl, hq h' tk' (hp.objs.size + 1) dx ⟨old, Nat.le_succ _, ⟨_, hx⟩, Nat.le_trans (Nat.le_trans (Nat.le_succ _) (Nat.le_succ _)) z, dne, hns⟩⟩
end
end NE

set_option Elab.async false
set_option linter.all false
set_option maxRecDepth 100000
set_option maxHeartbeats 2000000
namespace NE
open PySem PySem.Spec PyProof.Rows L2
/-- an error of the class C at e, its own dict at d (H d tells its field); one without a dict -/
def EH (C d e : Addr) : HO := .ext fun h => ∃ t1 : Addr, h.get? e = some { cls := .ref C, dict := some d, data := .fields #[.ref t1, .none, .none, .none, .bool false, .none] }
def EB (C e : Addr) : HO := .ext fun h => ∃ t1 : Addr, h.get? e = some { cls := .ref C, dict := none, data := .fields #[.ref t1, .none, .none, .none, .bool false, .none] }
theorem eh_ok {P : Program} {w : World} {H : Hp} {h : Heap} {C d e t1 : Addr} (he : h.get? e = some { cls := .ref C, dict := some d, data := .fields #[.ref t1, .none, .none, .none, .bool false, .none] }) : ObjOk P w H h e (EH C d e) :=
  ⟨⟨t1, he⟩, ⟨_, he⟩, fun _ _ ⟨t, q⟩ k => ⟨t, k _ q⟩⟩
theorem eb_ok {P : Program} {w : World} {H : Hp} {h : Heap} {C e t1 : Addr} (he : h.get? e = some { cls := .ref C, dict := none, data := .fields #[.ref t1, .none, .none, .none, .bool false, .none] }) : ObjOk P w H h e (EB C e) :=
  ⟨⟨t1, he⟩, ⟨_, he⟩, fun _ _ ⟨t, q⟩ k => ⟨t, k _ q⟩⟩
section
variable {fs ex : List Addr} {H : Hp} {h h' : Heap} {a b : Addr} {o u : HO}
theorem un_two (k : ∀ c v, h.get? c = some v → h'.get? c = some v) (ha : h.objs.size ≤ a) (hb : h.objs.size ≤ b) (na : H a = none) (nb : H b = none) : Un fs ex H (upd (upd H a o) b u) h h' where
  keep := fun c v q _ _ _ => k c v q
  slot := fun c v q _ _ _ => ⟨v.slots, k c v q⟩
  free := fun c v q n _ => by
    have l := Heap.lt_size q
    rw [upd_ne (Nat.ne_of_lt (Nat.lt_of_lt_of_le l hb)), upd_ne (Nat.ne_of_lt (Nat.lt_of_lt_of_le l ha))]
    exact n
  there := fun c v q _ => ⟨v, k c v q⟩
  tups := fun c xs q => by rw [upd_ne (ne_of_none q nb), upd_ne (ne_of_none q na)]; exact q
  frzs := fun c v xs q => by rw [upd_ne (ne_of_none q nb), upd_ne (ne_of_none q na)]; exact q
  tbls := fun c ps q => ⟨#[], by rw [upd_ne (ne_of_none q nb), upd_ne (ne_of_none q na), q]; simp⟩
theorem hok_two {P : Program} {w : World} (x : HOk P w H h) (k : ∀ c v, h.get? c = some v → h'.get? c = some v) (na : H a = none) (nb : H b = none) (ne : a ≠ b) (n1 : ObjOk P w (upd (upd H a o) b u) h' a o) (n2 : ObjOk P w (upd (upd H a o) b u) h' b u) : HOk P w (upd (upd H a o) b u) h' := fun c v e => by
  by_cases hb : c = b
  · subst hb
    rw [upd_same] at e
    cases e
    exact n2
  · rw [upd_ne hb] at e
    by_cases ha : c = a
    · subst ha
      rw [upd_same] at e
      cases e
      exact n1
    · rw [upd_ne ha] at e
      exact (x c v e).stay (fun c v _ q => k c v q) (fun c q => by rw [upd_ne (ne_of_none q nb), upd_ne (ne_of_none q na)]; exact q) fun c xs q => by rw [upd_ne (ne_of_none q nb), upd_ne (ne_of_none q na)]; exact q
end
section
variable {X : Cx} {pins : List (Addr × Obj)} {σ : L2.St} {H : Hp} {s : Shared}
theorem inv_two {h' : Heap} {a b : Addr} {o u : HO} {t' : Nat} (I : Inv X pins σ H s) (k : ∀ c v, s.heap.get? c = some v → h'.get? c = some v) (ha : s.heap.objs.size ≤ a) (hb : s.heap.objs.size ≤ b) (ne : a ≠ b) (n1 : ObjOk X.prog X.w (upd (upd H a o) b u) h' a o)
    (n2 : ObjOk X.prog X.w (upd (upd H a o) b u) h' b u) : Inv X pins σ (upd (upd H a o) b u) { s with heap := h', toks := t' } :=
  I.un (un_two k ha hb (I.hok.fresh ha) (I.hok.fresh hb)) (hok_two I.hok k (I.hok.fresh ha) (I.hok.fresh hb) ne n1 n2)
theorem relO_one {f g : PySem.Str} {v : V} {u : Value} (r : RelV v u) : RelO (List.lookup g [(f, v)]) (if g = f then some u else none) := by
  by_cases hw : g = f
  · subst hw
    rw [if_pos rfl, show List.lookup g [(g, v)] = some v by simp [List.lookup]]
    exact r
  · rw [if_neg hw, show List.lookup g [(f, v)] = none by simp [List.lookup, (beq_eq_false_iff_ne.mpr hw : (g == f) = false)]]
    trivial
end
/-- what is asked of an error's making: a value v, then of every new error -/
def kErr (C : Addr) (f : PySem.Str) (v : V) : Hp → VK → Prop := fun H Q => ∀ e d, H e = none → H d = none → d ≠ e → Q (.ref e) (upd (upd H d (.xd [(f, v)])) e (EH C d e))
def tErr (C : Addr) (f : PySem.Str) (ta : TA) : TE := fun σ H Q => ta σ H fun vs H1 => ∃ v, vs = [v] ∧ kErr C f v H1 Q
def tErr0 (C : Addr) (f : PySem.Str) : TE := fun _ H Q => kErr C f .non H Q
def tErrB (C : Addr) : TE := fun _ H Q => ∀ e, H e = none → Q (.ref e) (upd H e (EB C e))
section
variable {X : Cx} {x f : PySem.Str} {C fI cda cc : Addr} {p pos : Pos} {k : Nat}
theorem err_done {pins : List (Addr × Obj)} {σ : L2.St} {H : Hp} {s : Shared} {Q : VK} {h' : Heap} {tk : Nat} {e d : Addr} {v : V} {u : Value} (I : Inv X pins σ H s) (r : RelV v u) (M : OwnMade s.heap h' e C d f u) (h : kErr C f v H Q) :
    EP X pins σ Q (.ref e) { s with heap := h', toks := tk } := by
  obtain ⟨t1, hoe⟩ := M.obj
  refine ⟨.ref e, _, inv_two (t' := tk) I M.keep M.dbig M.new M.dne ?_ (eh_ok hoe), rfl, h e d (I.hok.fresh M.new) (I.hok.fresh M.dbig) M.dne⟩
  exact ⟨_, M.ns, fun g => relO_one r⟩
theorem pe_err {a : Expr} {ta : TA} (T : ExTxt X.prog X.K X.mg x f C fI cda cc) (hr : Room k X.A) (ha : PA X [a] ta) (hg : Gl X x := by rfl) (hd : (x == ("__debug__" : PySem.Str)) = false := by decide)
    (he : starEach (a :: []) X.env = (false, eval a X.env) :: starEach [] X.env := by rfl) (hpl : (backTo pos (starEach [] X.env)).any (·.1) = false := by rfl) : PE X (.Call (.Name x p) [a] [] pos) (tErr C f ta) := by
  refine ⟨fun pins s σ H Q I h => ?_⟩
  refine wpAny_Call_Name_kw (ld_glob I hg T.gC ?_ hd)
  refine PySem.W.callWith_K (h₀ := X.base) I.ok.mod.kin T.kC (thn (ha.run pos pins s σ H _ I h) fun us s1 hh => ?_) he hpl
  obtain ⟨vs, H1, I1, r1, v, ev, q1⟩ := hh
  subst ev
  refine ⟨I1.kIn, ?_⟩
  cases r1 with
  | cons rv rn =>
    rename_i v' us'
    cases rn
    show wpAny _ _ (call (.ref C) [v']) _ _ _
    exact wpAny_call (ex_made T I1.mod I1.bk (by have := hr.dp; omega) fun h' tk' e d M => err_done I1 rv M q1)
theorem pe_err0 (T : ExTxt X.prog X.K X.mg x f C fI cda cc) (hr : Room k X.A) (hg : Gl X x := by rfl) (hd : (x == ("__debug__" : PySem.Str)) = false := by decide) : PE X (.Call (.Name x p) [] [] pos) (tErr0 C f) := by
  refine ⟨fun pins s σ H Q I h => ?_⟩
  refine wpAny_Call_Name_kw (ld_glob I hg T.gC ?_ hd)
  refine PySem.W.callWith_K0 I.kIn T.kC ?_
  show wpAny _ _ (call (.ref C) []) _ _ _
  exact wpAny_call (ex_bare T I.mod I.bk (by have := hr.dp; omega) fun h' tk' e d M => err_done (v := .non) (u := .none) I rfl M h)
theorem pe_errK {kw : Keyword} {tk : TA} (T : ExTxt X.prog X.K X.mg x f C fI cda cc) (hr : Room k X.A) (hkw : PK X [kw] tk) (hg : Gl X x := by rfl) (hd : (x == ("__debug__" : PySem.Str)) = false := by decide)
    (hall : (backToKw pos (keywordEach [kw] X.env)).all (·.1.isSome) = true := by rfl) (hks : (backToKw pos (keywordEach [kw] X.env)).filterMap (·.1) = [f] := by rfl)
    (hpl : ((backTo pos (starEach [] X.env)).any (·.1) || (backToKw pos (keywordEach [kw] X.env)).any (·.1.isNone)) = false := by rfl) : PE X (.Call (.Name x p) [] [kw] pos) (tErr C f tk) := by
  refine ⟨fun pins s σ H Q I h => ?_⟩
  refine wpAny_Call_Name_kw (ld_glob I hg T.gC ?_ hd)
  refine PySem.W.callWith_KW0 (h₀ := X.base) I.ok.mod.kin T.kC hall (thn (hkw.run pos pins s σ H _ I h) fun us s1 hh => ?_) hpl
  obtain ⟨vs, H1, I1, r1, v, ev, q1⟩ := hh
  subst ev
  refine ⟨I1.kIn, ?_⟩
  cases r1 with
  | cons rv rn =>
    rename_i v' us'
    cases rn
    rw [hks]
    show wpAny _ _ (call (.ref C) [] [(f, v')]) _ _ _
    exact wpAny_call (ex_kw T I1.mod I1.bk (by have := hr.dp; omega) fun h' tk' e d M => err_done I1 rv M q1)
end
/-- what the written part says of an error's class without an __init__ of its own -/
structure ExB (K : PySem.W.Frag) (mg : PySem.Str → Option Value) (x : PySem.Str) (C : Addr) : Prop where
  gC : mg x = some (.ref C)
  kC : PySem.W.keepIn K (.ref C) = true
  ini : PySem.W.excInitIn K C HandSPX.veTail "ValueError.__new__" = true
  iC : PySem.W.findIn K (.ref C) "__init__" = some (some (.builtin "ValueError.__init__"))
/-- what isinstance asks of an error's class -/
structure ExI (K : PySem.W.Frag) (C : Addr) : Prop where
  cl : (PySem.W.clsIn K C).isSome = true
  ga : PySem.W.findIn K (.ref C) "__getattribute__" = some (some (.builtin "BaseException.__getattribute__"))
  gg : PySem.W.findIn K (.ref C) "__getattr__" = some none
  sBE : PySem.W.subIn K (.ref C) (.type "BaseException") = some true
  ca : PySem.W.findIn K (.ref C) "__class__" = some (some (.builtin "object.__class__"))
  cg : PySem.W.specialIn K (.builtin "object.__class__") "__get__" = some (some (.builtin "getset_descriptor.__get__"))
  ct : PySem.W.takesIn K (.builtin "object.__class__") = some true
  ob : PySem.W.mroIn K C (.type "object") = some true
section
variable {X : Cx} {x f : PySem.Str} {C fI cda cc : Addr} {p pos : Pos} {k : Nat}
theorem pe_errB (T : ExB X.K X.mg x C) (hg : Gl X x := by rfl) (hd : (x == ("__debug__" : PySem.Str)) = false := by decide) : PE X (.Call (.Name x p) [] [] pos) (tErrB C) := by
  refine ⟨fun pins s σ H Q I h => ?_⟩
  refine wpAny_Call_Name_kw (ld_glob I hg T.gC ?_ hd)
  refine PySem.W.callWith_K0 I.kIn T.kC ?_
  show wpAny _ _ (call (.ref C) []) _ _ _
  obtain ⟨nm, N', qn, bs, bm, hdct, sn, sub, ab, col, dd, k0, k1, k2, k3, k5, hC, hT⟩ := PySem.W.excInit_of I.kIn T.ini
  obtain ⟨hp, g, dr, tk, os⟩ := s
  refine PySem.W.call_B PySem.F.excBase_ValueError hT hC (PySem.W.looks_findIn I.kIn T.iC) (Nat.zero_le _) fun h' kk e1 _ => ?_
  exact ⟨.ref (hp.objs.size + 1), _, I.laid (t' := tk) kk (Nat.le_succ _) (eb_ok e1), rfl, h _ (I.hok.fresh (Nat.le_succ _))⟩
/-- isinstance(e, c), e an error -/
def rIsX (K : PySem.W.Frag) : List V → Hp → VK → Prop := fun xs H Q => ∃ (e C : Addr) (c : V) (cv : Value) (b : Bool), xs = [.ref e, c] ∧ ((∃ d fs, H e = some (EH C d e) ∧ H d = some (.xd fs)) ∨ H e = some (EB C e)) ∧ ExI K C ∧ ClsV c cv ∧ PySem.W.kitOne K (.ref C) cv = some b ∧ Q (.bl b) H
theorem call_isX : CallR X (.builtin "isinstance") (rIsX X.K) := by
  intro pins s σ H xs us Q I r h
  obtain ⟨e, C, c, cv, b, rfl, hee, T, hc, hk, q⟩ := h
  obtain ⟨u1, u2, rfl, r1, r2⟩ := vals2 r
  cases (show u1 = Value.ref e from r1)
  have e2 := hc.eq r2
  subst e2
  rcases hee with ⟨d, fs, he, hd⟩ | he
  · obtain ⟨⟨t1, ho⟩, _⟩ := I.hok e _ he
    obtain ⟨mA, ⟨od, es, ep, hod, _⟩, _⟩ := I.hok d _ hd
    have J : PySem.W.InstAt s.heap e { cls := .ref C, dict := some d, data := .fields #[.ref t1, .none, .none, .none, .bool false, .none] } C (some od) := ⟨ho, rfl, rfl, hod⟩
    exact PySem.W.kia_one (PySem.W.kitx_exc T.cl T.ga T.gg T.sBE T.ca T.cg T.ct T.ob) I.kIn J hk (fun z => nomatch z) fun tk => ⟨.bl b, H, I.tok tk, rfl, q⟩
  · obtain ⟨⟨t1, ho⟩, _⟩ := I.hok e _ he
    have J : PySem.W.InstAt s.heap e { cls := .ref C, dict := none, data := .fields #[.ref t1, .none, .none, .none, .bool false, .none] } C none := ⟨ho, rfl, rfl, trivial⟩
    exact PySem.W.kia_one (PySem.W.kitx_exc T.cl T.ga T.gg T.sBE T.ca T.cg T.ct T.ob) I.kIn J hk (fun z => nomatch z) fun tk => ⟨.bl b, H, I.tok tk, rfl, q⟩
/-- e.f, e an error whose field f is -/
def tErrF (K : PySem.W.Frag) (f : PySem.Str) (te : TE) : TE := fun σ H Q => te σ H fun x H1 => ∃ e C d v, x = .ref e ∧ H1 e = some (EH C d e) ∧ H1 d = some (.xd [(f, v)]) ∧ ExI K C ∧ PySem.W.hasDictIn K C = true ∧ PySem.W.findIn K (.ref C) f = some none ∧ Q v H1
theorem pe_errF {e : Expr} {te : TE} (he : PE X e te) (hb : attributeBase e f X.env (eval e X.env) = eval e X.env := by rfl) : PE X (.Attribute e f pos) (tErrF X.K f te) := by
  refine ⟨fun pins s σ H Q I h => ?_⟩
  refine attr_of hb (thn (he.run pins s σ H _ I h) fun u s1 hh => ?_)
  obtain ⟨x, H1, I1, rx, ee, C, d, v, ex, h1, h2, T, hdc, hno, q⟩ := hh
  subst ex
  obtain rfl : u = Value.ref ee := rx
  obtain ⟨⟨t1, ho⟩, _⟩ := I1.hok ee _ h1
  obtain ⟨mA, hns, hr⟩ := I1.hok d _ h2
  obtain ⟨od, hod, hl⟩ := lookIn_ns hns
  obtain ⟨u, hu, ru⟩ := RelO.some_of (v := v) (o := mA f) (by have z := hr f; rw [show List.lookup f [(f, v)] = some v by simp [List.lookup]] at z; exact z)
  have J : PySem.W.InstAt s1.heap ee { cls := .ref C, dict := some d, data := .fields #[.ref t1, .none, .none, .none, .bool false, .none] } C (some od) := ⟨ho, rfl, rfl, hod⟩
  exact HandSPX.exc_get I1.kIn J T.ga T.gg T.sBE (PySem.W.findObj_own hdc hno rfl (by rw [hl, hu])) (handed_of ru) ⟨v, H1, I1.tok _, ru, q⟩
end
end NE

set_option Elab.async false
set_option linter.all false
set_option maxRecDepth 100000
set_option maxHeartbeats 2000000
/-! A def's promise where nothing is being shown (no repr runs around it): for laws that compare texts of repr. -/
namespace NE
open PySem PySem.Spec PyProof.Rows L2
structure FnG (P : Program) (w : World) (K : PySem.W.Frag) (mg : PySem.Str → Option Value) (base : Heap) (CX : CXT) (k : Nat) (f : Addr) (fd : FuncData) (ps : List PySem.Str) (sp : Sp) : Prop where
  len : ∀ vs H Q E, sp vs H Q E → vs.length = ps.length
  run : ∀ (A : Around) (outer : List Env) (s : Shared) (H : Hp) (args : Args) (us : List Value) (vs : List V) (Q : VK) (E : XK), A.guards = some [] → Room k A → Env0 P w K mg base A outer s H → BindsTo s fd args (ps.zip us) → Vals vs us → sp vs H Q E →
    codeAny (model P w) A (.call (.ref f) args) (CR CX outer P w H s Q E) s
theorem FnG.of {P : Program} {w : World} {K : PySem.W.Frag} {mg : PySem.Str → Option Value} {base : Heap} {CX : CXT} {k : Nat} {f : Addr} {fd : FuncData} {ps : List PySem.Str} {sp : Sp} (F : FnOk P w K mg base CX k f fd ps sp) : FnG P w K mg base CX k f fd ps sp :=
  ⟨F.len, fun A outer s H args us vs Q E _ => F.run A outer s H args us vs Q E⟩
section
variable {P : Program} {w : World} {K : PySem.W.Frag} {mg : PySem.Str → Option Value} {base : Heap} {x qual : PySem.Str} {params : Arguments} {body : List Stmt} {scope : Scope} {dvs : List V} {kws : List (PySem.Str × V)} {f : Addr} {fd : FuncData}
/-- the rule of a def, its body read where nothing is being shown -/
theorem okG {CX : CXT} {N ps : List PySem.Str} {k : Nat} {sp : Sp} (F : FunD K x qual params body scope dvs kws f fd) (S : FnScope N ps scope) (len : ∀ vs H Q E, sp vs H Q E → vs.length = ps.length)
    (hbody : ∀ (cdv : Value) (A : Around) (outer : List Env) (s : Shared) (H : Hp) (vs : List V) (Q : VK) (E : XK), (A.deeper (envOfC qual scope s.heap.objs.size f cdv)).guards = some [] → Room k (A.deeper (envOfC qual scope s.heap.objs.size f cdv)) → sp vs H Q E →
      ∃ t, PSs (cxOf CX P w K mg base N qual scope f cdv A outer s H E) body t ∧ t { nx := fun _ H' => Q .non H', rt := Q } (start N vs) H) : FnG P w K mg base CX (k + 1) f fd ps sp := by
  refine ⟨len, fun A outer s H args us vs Q E hg hr e0 hb r hsp => ?_⟩
  obtain ⟨oc, od, dV, kV, doc, pm, an, cdv, ct, osl, rfl, lk, hcd, _, _⟩ := F.ex
  have kx : K.In s.heap := e0.mod.kin.keeps fun b o e => (e0.bs b o e).1
  have lim : s.heap.NoLimit := e0.mod.nolimit.keeps fun b o e => (e0.bs b o e).1
  have par : ∀ y ∈ ps.zip us, scope.names.lookup y.1 = some .local ∨ (scope.names.lookup y.1 = some .cell ∧ ((cellsFrom (s.heap.objs.size + 1) scope.names []).lookup y.1).isSome = true) := fun y hy => by
    rcases S.par y.1 (List.of_mem_zip (show (y.1, y.2) ∈ ps.zip us from hy)).1 with q | q
    · exact .inl q
    · exact .inr ⟨q, PySem.W.cellsFrom_some _ _ _ (.inl q)⟩
  refine codeAny_call_function hr.depth (kx _ _ lk) rfl S.co S.gen rfl (PySem.W.codeRec_of kx hcd) (hb _ _ _ _ (wpAny_newFunctionEnv_cells S.kind par fun env he s1 z => ?_))
  subst he
  refine ⟨lim.keeps z.toInCall.keep, codeAny_func ?_⟩
  have g1 : (A.deeper (envOfC qual scope s.heap.objs.size f cdv)).guards = some [] := by
    show A.guards = some []
    exact hg
  obtain ⟨t, ht, hq⟩ := hbody cdv A outer s H vs Q E g1 (hr.deeper _) hsp
  have I : Inv (cxOf CX P w K mg base N qual scope f cdv A outer s H E) [] (start N vs) H s1 := inv_start S hr.hd e0 (len _ _ _ _ hsp) r z
  refine wpAny_mono (ht.run [] s1 (start N vs) H _ I hq) (fun fl s' hs => ?_) fun e s' hs => hs
  cases fl with
  | ret u =>
    obtain ⟨v, σ', H', J, rv, q⟩ := hs
    exact ⟨v, H', J.os, J.bare, J.base, J.hok, rv, q⟩
  | next =>
    obtain ⟨σ', H', J, q⟩ := hs
    exact ⟨.non, H', J.os, J.bare, J.base, J.hok, rfl, q⟩
  | brk => exact hs.elim fun _ z => z.elim fun _ z => z.2.elim
  | cont => exact hs.elim fun _ z => z.elim fun _ z => z.2.elim
end
/-- a law's call, its def promised so -/
theorem law_callG {P : Program} {w : World} {K : PySem.W.Frag} {mg mb : PySem.Str → Option Value} {CX : CXT} {k : Nat} {fa a : Addr} {fd : FuncData} {x : PySem.Str} {sp : Sp} {s₁ : Shared} {vs : List Value} {ns : List Int}
    (KX : K.In s₁.heap) (hns : s₁.heap.Ns mainGlobals mg) (hb : s₁.heap.Ns builtinsNs mb) (hbb : ∀ x : PySem.Str, x ≠ "__name__" → mb x = bootBuiltins x) (hlim : s₁.heap.NoLimit) (hg : s₁.gens = #[])
    (ha : s₁.heap.get? a = some { cls := .type "list", data := .seq vs.toArray }) (hi : IntsAre vs ns) (hl : ns.length ≤ sizeLine) (hr : Room k callerA)
    (F : ∀ base : Heap, K.In base → base.Ns mainGlobals mg → FnG P w K mg base CX k fa fd [x] sp) (hbind : ∀ (s : Shared) (u : Value), BindsTo s fd ⟨[u], []⟩ [(x, u)])
    (hsp : ∀ H : Hp, Only H → SqL K H a (ns.map V.int) → sp [.ref a] H (fun v _ => v = .bl true) fun _ _ _ => False) (hCX : ∀ H e s', CX [] H s₁ (fun _ _ _ => False) e s' → False) :
    codeAny (model P w) callerA (.call (.ref fa) ⟨[.ref a], []⟩) (fun r s' => r = .ok (.ret (.bool true)) ∧ OldK s₁.heap s'.heap ∧ s'.os = s₁.os ∧ AllBare s'.gens) s₁ := by
  have rv := vals_ints hi
  have lv := hi.length
  have main : ∀ H : Hp, Only H → SqL K H a (ns.map V.int) → HOk P w H s₁.heap → (∀ b, H b ≠ none → b = a) → (H a ≠ none → K.lookup a = none) →
      codeAny (model P w) callerA (.call (.ref fa) ⟨[.ref a], []⟩) (fun r s' => r = .ok (.ret (.bool true)) ∧ OldK s₁.heap s'.heap ∧ s'.os = s₁.os ∧ AllBare s'.gens) s₁ := by
    intro H hO hS hok hA hK
    have out : ∀ {b : Addr} {o : Obj}, s₁.heap.get? b = some o → (b = a → False) → H b = none := fun {b o} _ ne => by
      cases q : H b with
      | none => rfl
      | some u => exact (ne (hA b (by rw [q]; exact fun z => nomatch z))).elim
    have nd : ∀ {b : Addr} {o : Obj} {es : Array DictEntry} {ep : Nat}, s₁.heap.get? b = some o → o.data = .dict es ep → H b = none := fun {b o es ep} e d => out e fun z => by
      rw [z, ha] at e
      cases e
      cases (show Data.seq vs.toArray _ = Data.dict es ep from d)
    have nsK : ∀ {b : Addr} {m : PySem.Str → Option Value}, s₁.heap.Ns b m → (hidT s₁.heap H).Ns b m := fun {b m} ⟨o, es, ep, e, d, r⟩ => ⟨o, es, ep, hidT_get e (nd e d), d, r⟩
    have hKb : K.In (hidT s₁.heap H) := fun b o e => hidT_get (KX b o e) (by
      cases q : H b with
      | none => rfl
      | some u =>
        have z : b = a := hA b (by rw [q]; exact fun z => nomatch z)
        rw [z] at e q
        rw [hK (by rw [q]; exact fun z => nomatch z)] at e
        cases e)
    have hM : Mod K mg (hidT s₁.heap H) := ⟨hKb, nsK hns, ⟨mb, nsK hb, hbb⟩, let ⟨mc, h1, h2⟩ := hlim; ⟨mc, nsK h1, h2⟩⟩
    have e0 : Env0 P w K mg (hidT s₁.heap H) callerA [] s₁ H := ⟨rfl, hM, fun b o e => of_hidT e, Nat.le_of_eq (hidT_size _ _), trivial, fun b hb => (nomatch hb), hok, .of_eq hg⟩
    refine codeAny_mono ((F _ hKb (nsK hns)).run callerA [] s₁ H ⟨[.ref a], []⟩ [.ref a] [.ref a] _ _ rfl hr e0 (hbind s₁ (.ref a)) (.cons rfl .nil) (hsp H hO hS)) fun r s' h => ?_
    cases r with
    | error e => exact (hCX H e s' h).elim
    | ok fl =>
      cases fl with
      | next => exact False.elim h
      | brk => exact False.elim h
      | cont => exact False.elim h
      | ret u =>
        obtain ⟨v, H', os, bare, un, hok', r', q⟩ := h
        have q1 : v = .bl true := q
        subst q1
        obtain rfl : u = Value.bool true := r'
        refine ⟨rfl, OldK.of_keep fun b o e => ?_, os, bare⟩
        cases q : H b with
        | none => exact un.keep b o e q (fun z => nomatch z) (fun z => nomatch z)
        | some u =>
          rcases hO b with z | ⟨ob, xs, z⟩
          · rw [q] at z
            cases z
          · have e1 := (hok b _ z).1
            have e2 := (hok' b _ (un.frzs b ob _ z)).1
            rw [e] at e1
            cases e1
            exact e2
  cases hk : K.lookup a with
  | some o =>
    have e := KX a o hk
    rw [ha] at e
    cases e
    exact main (fun _ => none) (fun _ => .inl rfl) (.inr ⟨_, vs.toArray, _, hk, rfl, rfl, rfl, by rw [List.size_toArray, lv]; exact hl, by simpa using rv⟩) (fun b u z => nomatch z) (fun b z => absurd rfl z) fun z => absurd rfl z
  | none =>
    have at_a : ∀ b : Addr, (upd (fun _ => none) a (.frz { cls := .type "list", data := .seq vs.toArray } (.lst (ns.map V.int))) : Hp) b ≠ none → b = a := fun b z => by
      by_cases hb : b = a
      · exact hb
      · rw [upd_ne hb] at z
        exact absurd rfl z
    refine main (upd (fun _ => none) a (.frz { cls := .type "list", data := .seq vs.toArray } (.lst (ns.map V.int)))) (fun b => ?_) (.inl (.inr ⟨_, upd_same⟩)) (fun b u z => ?_) at_a fun _ => hk
    · by_cases hb : b = a
      · subst hb
        exact .inr ⟨_, _, upd_same⟩
      · exact .inl (upd_ne hb)
    · have hb : b = a := at_a b (by rw [z]; exact fun q => nomatch q)
      subst hb
      rw [upd_same] at z
      cases z
      exact ⟨ha, by rw [List.length_map]; exact hl, vs, _, rv, ha⟩
theorem walk_ofG {l : PySem.W.OpenLaw} {n k : Nat} {q : Program} {loose : List PySem.Str} {XP : (PySem.Str → Option Value) → Heap → Prop} {YP : World → Heap → Prop} {d : DefRec} {CX : CXT} {x : PySem.Str}
    (hn : l.most = some n) (hn2 : n ≤ sizeLine) (hdf : d.params.defaults = []) (hr : Room k callerA)
    (F : ∀ (w : World) (mg : PySem.Str → Option Value) (fa : Addr) (h : Heap), YP w h → h.Ns mainGlobals mg → mg d.name = some (.ref fa) →
      ∃ (K : PySem.W.Frag) (fd : FuncData) (sp : Sp), K.In h ∧ (∀ (s : Shared) (u : Value), BindsTo s fd ⟨[u], []⟩ [(x, u)]) ∧
        (∀ (H : Hp) (a : Addr) (ns : List Int), ns.length ≤ n → Only H → SqL K H a (ns.map V.int) → sp [.ref a] H (fun v _ => v = .bl true) fun _ _ _ => False) ∧
        ∀ base : Heap, K.In base → base.Ns mainGlobals mg → FnG l.prog w K mg base CX k fa fd [x] sp)
    (hCX : ∀ (H : Hp) (s : Shared) (e : Value) (s' : Shared), CX [] H s (fun _ _ _ => False) e s' → False) : PySem.W.WalkO q loose XP YP l.row.toRowW d [] (fun f vs => PySem.call f vs) := by
  refine Att.attach_call hn hdf fun w s₀ s₁ mg mb fa o pm cd doc a vs ns G Y ho hd hcd hmg hobj hints hlen hg => ?_
  obtain ⟨K, fd, sp, KX, hb, hsp, hF⟩ := F w mg fa _ Y G.T.g hmg
  exact law_callG KX G.T.g G.T.b G.T.builtins G.T.nolimit hg hobj hints (Nat.le_trans hlen hn2) hr hF hb (fun H hO hS => hsp H a ns hlen hO hS) fun H e s' => hCX H s₁ e s'
end NE

set_option Elab.async false
set_option linter.all false
set_option maxRecDepth 100000
set_option maxHeartbeats 2000000
/-! A head's facts by one Bool, and the texts of its defs. -/
namespace NE
open PySem PySem.Spec PyProof.Rows L2 He
/-- the written part: what the module's names reach in n steps, and two objects of the system -/
def frK (g : Addr → Option Obj) (n : Nat) : PySem.W.Frag := frG g (asD g n ++ [sysModules, cStatics])
abbrev Tx : Type := Option (PySem.Str × PySem.Str × Arguments × FuncBody × Scope)
/-- a def's text, by its place: a global's name; a class and its method -/
def txAt (K : PySem.W.Frag) (a : Addr) : Tx := match K.lookup a with
  | some ⟨_, _, .func fd, _⟩ => some (fd.name, fd.qualname, fd.params, fd.body, fd.scope)
  | _ => none
/-- a def's other parts: a function of the module, its code, its defaults, its closure -/
def fnB (K : PySem.W.Frag) (a : Addr) (q : PySem.Str) (dfl : List V) (clo : List PySem.Str) : Bool := match K.lookup a with
  | some ⟨.type c, _, .func fd, _⟩ => decide (c = "function") && (PySem.W.codeIn K fd.code q && (dflB K fd.defaults dfl && (decide (fd.globals = mainGlobals) && (decide (fd.builtins = builtinsNs) && (decide (fd.closure.map (·.1) = clo))))))
  | _ => false
/-- a getter's address, of a class's property -/
def pga (K : PySem.W.Frag) (C : Addr) (f : PySem.Str) : Addr := match PySem.W.recIn K (ma K C f) "property" with
  | some (.ref g :: _) => g
  | _ => 0
/-- where a def stands -/
inductive Pl where
  | g (x : PySem.Str) | m (c x : PySem.Str) | p (c x : PySem.Str)
def Pl.ad (K : PySem.W.Frag) : Pl → Addr
  | .g x => ga K x
  | .m c x => ma K (ga K c) x
  | .p c x => pga K (ga K c) x
structure Df where
  pl : Pl
  name : PySem.Str
  qual : PySem.Str
  st : Stmt
  dfl : List V := []
  clo : List PySem.Str := []
def Df.tx (d : Df) : Tx := some (d.name, d.qual, defArgs d.st, .stmts (defBody d.st), defScope d.st)
abbrev AlB : Type := Bool × List Tx
def obB (n : Nat) (fn : List Df) (chk : PySem.W.Frag → Bool) (g : Addr → Option Obj) : AlB := (chk (frK g n) && fn.all fun d => fnB (frK g n) (d.pl.ad (frK g n)) d.qual d.dfl d.clo, fn.map fun d => txAt (frK g n) (d.pl.ad (frK g n)))
def vaB (fn : List Df) : AlB := (true, fn.map Df.tx)
structure SaysB (fn : List Df) (chk : PySem.W.Frag → Bool) (K : PySem.W.Frag) : Prop where
  ok : chk K = true
  fs : ∀ d ∈ fn, fnB K (d.pl.ad K) d.qual d.dfl d.clo = true ∧ txAt K (d.pl.ad K) = d.tx
theorem map_mem {α β : Type} {f g : α → β} : ∀ {l : List α}, l.map f = l.map g → ∀ a ∈ l, f a = g a
  | [], _, _, h => nomatch h
  | b :: l, e, a, h => by
    have e1 : f b :: l.map f = g b :: l.map g := e
    injection e1 with e2 e3
    rcases List.mem_cons.mp h with rfl | h
    · exact e2
    · exact map_mem e3 a h
theorem saysB_of {n : Nat} {fn : List Df} {chk : PySem.W.Frag → Bool} {g : Addr → Option Obj} (e : obB n fn chk g = vaB fn) : SaysB fn chk (frK g n) := by
  have e1 : (chk (frK g n) && fn.all fun d => fnB (frK g n) (d.pl.ad (frK g n)) d.qual d.dfl d.clo) = true := congrArg (fun z : AlB => z.1) e
  have e2 : fn.map (fun d => txAt (frK g n) (d.pl.ad (frK g n))) = fn.map Df.tx := congrArg (fun z : AlB => z.2) e
  obtain ⟨h1, h2⟩ := ba e1
  exact ⟨h1, fun d hd => ⟨List.all_eq_true.mp h2 d hd, map_mem e2 d hd⟩⟩
def hkB (n : Nat) (fn : List Df) (chk : PySem.W.Frag → Bool) : PySem.W.Hook where
  α := AlB
  obs := fun s => obB n fn chk s.heap.get?
  val := fun _ => vaB fn
  says := fun _ h => ∃ K : PySem.W.Frag, K.In h ∧ SaysB fn chk K
  of := fun _ _ e => ⟨_, frG_in, saysB_of e⟩
  keeps := fun _ _ _ ⟨K, hK, c⟩ k => ⟨K, PySem.W.Frag.In.keeps hK k, c⟩
theorem obB_eq {n : Nat} {fn : List Df} {chk : PySem.W.Frag → Bool} {g : Addr → Option Obj} {s : Shared} (h : ∀ a, g a = s.heap.get? a) : obB n fn chk g = (hkB n fn chk).obs s := by
  have e : g = s.heap.get? := funext h
  rw [e] <;> rfl
section
variable {K : PySem.W.Frag} {fn : List Df} {chk : PySem.W.Frag → Bool}
/-- a def of no closure, as the layer wants it -/
theorem SaysB.funD (c : SaysB fn chk K) {d : Df} (h : d ∈ fn) (hc : d.clo = []) : ∃ fd, FunD K d.name d.qual (defArgs d.st) (defBody d.st) (defScope d.st) d.dfl [] (d.pl.ad K) fd := by
  obtain ⟨h1, h2⟩ := c.fs d h
  unfold txAt Df.tx at h2
  unfold fnB at h1
  cases q : K.lookup (d.pl.ad K) with
  | none =>
    rw [q] at h1
    cases h1
  | some o =>
    obtain ⟨oc, od, dt, osl⟩ := o
    rw [q] at h1 h2
    cases dt with
    | func fd =>
      cases oc with
      | type c =>
        obtain ⟨n1, n2, n3, n4, n5, n6, n7, n8, n9, n10, n11, n12, n13, n14, n15⟩ := fd
        simp only [Option.some.injEq, Prod.mk.injEq] at h2
        obtain ⟨e1, e2, e3, e4, e5⟩ := h2
        subst e1 e2 e3 e4 e5
        have h3 : (decide (c = "function") && (PySem.W.codeIn K n13 d.qual && (dflB K n8 d.dfl && (decide (n6 = mainGlobals) && (decide (n15 = builtinsNs) && (decide (n7.map (·.1) = d.clo))))))) = true := h1
        simp only [Bool.and_eq_true, decide_eq_true_eq] at h3
        obtain ⟨f1, f2, f3, f4, f5, f6⟩ := h3
        rw [hc] at f6
        have f7 : n7 = [] := List.map_eq_nil_iff.mp f6
        subst f4 f5 f7
        refine ⟨_, ⟨_, _, n8, n9, n10, n11, n12, n13, n14, osl, rfl, q, f2, dflB_ok f3, .inl rfl⟩, ?_⟩
        show (match K.lookup (d.pl.ad K) with
          | some ⟨_, _, .func _, _⟩ => true
          | some ⟨_, _, .cls _, _⟩ => PySem.W.specialIn K (.ref (d.pl.ad K)) "__call__" == some (some (.builtin "type.__call__"))
          | _ => false) = true
        rw [q]
      | _ => cases h1
    | _ => cases oc <;> cases h1
end
/-! ### the errors' classes -/
def cdaOf (K : PySem.W.Frag) (fI : Addr) : Addr := match K.lookup fI with
  | some ⟨_, _, .func fd, _⟩ => (match fd.code with
    | .ref c => c
    | _ => 0)
  | _ => 0
def ccOf (K : PySem.W.Frag) (fI : Addr) : Addr := match K.lookup fI with
  | some ⟨_, _, .func fd, _⟩ => (match fd.closure with
    | (_, c) :: _ => c
    | _ => 0)
  | _ => 0
def cellB (K : PySem.W.Frag) (cc C : Addr) : Bool := match K.lookup cc with
  | some ⟨_, _, .cell (some (.ref D)), _⟩ => decide (D = C)
  | _ => false
def fileB (K : PySem.W.Frag) (cda : Addr) (file : PySem.Str) : Bool := match K.lookup cda with
  | some ⟨_, _, .fields vs, _⟩ => (match (vs[2]? : Option Value) with
    | some (.str y _) => file == y
    | _ => false)
  | _ => false
def clsB (K : PySem.W.Frag) (C : Addr) : Bool := match PySem.W.clsIn K C with
  | some cd => HandSPX.refsVE cd.mro && cd.hasDict
  | none => false
def eqB (a b : Option Bool) : Bool := decide (a = b)
/-- all that ExI asks -/
def exiB (K : PySem.W.Frag) (C : Addr) : Bool := (PySem.W.clsIn K C).isSome && (eqO (PySem.W.findIn K (.ref C) "__getattribute__") (some (some (.builtin "BaseException.__getattribute__"))) && (eqO (PySem.W.findIn K (.ref C) "__getattr__") (some none) && (eqB (PySem.W.subIn K (.ref C) (.type "BaseException")) (some true) &&
  (eqO (PySem.W.findIn K (.ref C) "__class__") (some (some (.builtin "object.__class__"))) && (eqO (PySem.W.specialIn K (.builtin "object.__class__") "__get__") (some (some (.builtin "getset_descriptor.__get__"))) && (eqB (PySem.W.takesIn K (.builtin "object.__class__")) (some true) && eqB (PySem.W.mroIn K C (.type "object")) (some true)))))))
theorem exiB_ok {K : PySem.W.Frag} {C : Addr} (h : exiB K C = true) : ExI K C := by
  unfold exiB eqB at h
  simp only [Bool.and_eq_true, decide_eq_true_eq] at h
  obtain ⟨h1, h2, h3, h4, h5, h6, h7, h8⟩ := h
  exact ⟨h1, eqO_ok h2, eqO_ok h3, h4, eqO_ok h5, eqO_ok h6, h7, h8⟩
/-- what of ExTxt is told by Bools -/
def exB (file : PySem.Str) (K : PySem.W.Frag) (x f : PySem.Str) : Bool :=
  eqO (PySem.W.nsIn K mainGlobals x) (some (some (.ref (ga K x)))) && (eqO (PySem.W.nsIn K mainGlobals "super") (some none) && (PySem.W.keepIn K (.ref (ga K x)) && (PySem.W.excInitIn K (ga K x) HandSPX.veTail "ValueError.__new__" &&
  (eqO (PySem.W.findIn K (.ref (ga K x)) "__init__") (some (some (.ref (ma K (ga K x) "__init__")))) && (eqO (PySem.W.ks_superIn K (ga K x) (ga K x) "__init__") (some (some (.builtin "ValueError.__init__"))) && (eqB (PySem.W.subIn K (.ref (ga K x)) (.type "ValueError")) (some true) &&
  (eqB (PySem.W.mroIn K (ga K x) (.ref (ga K x))) (some true) && (eqO (PySem.W.nsIn K cStatics "thirdparty.any") (some none) && (eqO (PySem.W.findIn K (.ref (ga K x)) "__setattr__") (some (some (.builtin "object.__setattr__"))) && (eqO (PySem.W.findIn K (.ref (ga K x)) f) (some none) &&
  (clsB K (ga K x) && (fileB K (cdaOf K (ma K (ga K x) "__init__")) file && (cellB K (ccOf K (ma K (ga K x) "__init__")) (ga K x) && exiB K (ga K x))))))))))))))
/-- the text of such an __init__ -/
def ExSt (st : Stmt) (f : PySem.Str) : Prop := ∃ p1 p2 p3 q1 q2 q3 q4 q5 q6 q7 q8 q9 : Pos, defArgs st = iA f p1 p2 p3 ∧ defBody st = iB f q1 q2 q3 q4 q5 q6 q7 q8 q9 ∧ defScope st = iS f ∧ (q3.endLine == q4.line) = true
theorem exB_ok {prog : Program} {file : PySem.Str} {K : PySem.W.Frag} {h : Heap} {mg : PySem.Str → Option Value} {fn : List Df} {chk : PySem.W.Frag → Bool} {x f : PySem.Str} {d : Df} (X : K.In h) (G : h.Ns mainGlobals mg) (b : exB file K x f = true) (c : SaysB fn chk K) (hd : d ∈ fn) (h1 : d.pl = .m x "__init__") (h2 : d.name = "__init__")
    (h3 : d.dfl = [.non]) (h4 : d.clo = [("__class__" : PySem.Str)]) (h5 : ExSt d.st f) (f4 : f = "value" ∨ f = "ring" ∨ f = "most" ∨ f = "conflicts") (hf : (prog.main.file : PySem.Str) = file) (ht : (prog.main.scope.names.lookup ("super" : PySem.Str)).isSome = false) :
    ExTxt prog K mg x f (ga K x) (ma K (ga K x) "__init__") (cdaOf K (ma K (ga K x) "__init__")) (ccOf K (ma K (ga K x) "__init__")) ∧ ExI K (ga K x) ∧ PySem.W.hasDictIn K (ga K x) = true ∧ PySem.W.findIn K (.ref (ga K x)) f = some none := by
  unfold exB eqB at b
  simp only [Bool.and_eq_true, decide_eq_true_eq] at b
  obtain ⟨b1, b2, b3, b4, b5, b6, b7, b8, b9, b10, b11, b12, b13, b14, b15⟩ := b
  have I := exiB_ok b15
  have hcl : ∃ cd, PySem.W.clsIn K (ga K x) = some cd ∧ HandSPX.refsVE cd.mro = true ∧ cd.hasDict = true := by
    unfold clsB at b12
    cases q : PySem.W.clsIn K (ga K x) with
    | none =>
      rw [q] at b12
      cases b12
    | some cd =>
      rw [q] at b12
      obtain ⟨z1, z2⟩ := ba b12
      exact ⟨cd, rfl, z1, z2⟩
  have hdc : PySem.W.hasDictIn K (ga K x) = true := by
    obtain ⟨cd, q, _, z⟩ := hcl
    unfold PySem.W.hasDictIn
    rw [q]
    exact z
  refine ⟨?_, I, hdc, eqO_ok b11⟩
  obtain ⟨g1, g2⟩ := c.fs d hd
  rw [h1] at g1 g2
  have ead : (Pl.m x "__init__").ad K = ma K (ga K x) "__init__" := rfl
  rw [ead] at g1 g2
  obtain ⟨p1, p2, p3, q1, q2, q3, q4, q5, q6, q7, q8, q9, t1, t2, t3, t4⟩ := h5
  unfold txAt Df.tx at g2
  unfold fnB at g1
  unfold cellB ccOf at b14
  unfold fileB cdaOf at b13
  cases q : K.lookup (ma K (ga K x) "__init__") with
  | none =>
    rw [q] at g1
    cases g1
  | some o =>
    obtain ⟨oc, od, dt, osl⟩ := o
    rw [q] at g1 g2 b13 b14
    cases dt with
    | func fd =>
      cases oc with
      | type cn =>
        obtain ⟨n1, n2, n3, n4, n5, n6, n7, n8, n9, n10, n11, n12, n13, n14, n15⟩ := fd
        simp only [Option.some.injEq, Prod.mk.injEq] at g2
        obtain ⟨e1, e2, e3, e4, e5⟩ := g2
        have g3 : (decide (cn = "function") && (PySem.W.codeIn K n13 d.qual && (dflB K n8 d.dfl && (decide (n6 = mainGlobals) && (decide (n15 = builtinsNs) && (decide (n7.map (·.1) = d.clo))))))) = true := g1
        simp only [Bool.and_eq_true, decide_eq_true_eq] at g3
        obtain ⟨f1, f2, f3, f5, f6, f7⟩ := g3
        rw [h4] at f7
        rw [h3] at f3
        rw [h2] at e1
        rw [t1] at e3
        rw [t2] at e4
        rw [t3] at e5
        obtain ⟨y1, c1, rfl, hy⟩ : ∃ (y : PySem.Str) (c1 : Addr), n7 = [(y, c1)] ∧ y = "__class__" := by
          cases n7 with
          | nil => cases f7
          | cons a r =>
            obtain ⟨a1, a2⟩ := a
            have f8 : a1 :: r.map (·.1) = [("__class__" : PySem.Str)] := f7
            injection f8 with f9 f10
            rw [List.map_eq_nil_iff.mp f10]
            exact ⟨a1, a2, rfl, f9⟩
        subst hy
        obtain ⟨cdr, rfl⟩ : ∃ cdr, n13 = Value.ref cdr := by
          cases n13 with
          | ref c => exact ⟨c, rfl⟩
          | _ => cases f2
        have ecc : ccOf K (ma K (ga K x) "__init__") = c1 := by
          unfold ccOf
          rw [q]
        have ecd : cdaOf K (ma K (ga K x) "__init__") = cdr := by
          unfold cdaOf
          rw [q]
        have dd := dflB_ok f3
        rw [ecc, ecd]
        refine { f4 := f4, gC := PySem.W.mg_of X G (eqO_ok b1), gS := PySem.W.mg_none_of X G (eqO_ok b2), kC := b3, ini := b4, iC := eqO_ok b5, sup := eqO_ok b6, sVE := b7, sBE := I.sBE, slf := b8, thr := eqO_ok b9, sa := eqO_ok b10, ga := I.ga, gg := I.gg, no := eqO_ok b11, cls := hcl, fn := ?_, code := ?_, cell := ?_, top := ht }
        · subst e1 e2 e3 e4 e5 f5 f6 f1
          rcases dd with ⟨z, _⟩ | ⟨_, T, o, its, m, rfl, lT, oT, rT⟩
          · cases z
          · cases rT with
            | cons r1 r2 =>
              cases r2
              cases (show _ = Value.none from r1)
              exact ⟨od, d.qual, _, n9, n10, n11, n12, n14, osl, p1, p2, p3, q1, q2, q3, q4, q5, q6, q7, q8, q9, q, f2, t4, T, o, m, rfl, lT, oT⟩
        · have b16 : (match K.lookup cdr with
            | some ⟨_, _, .fields vs, _⟩ => (match (vs[2]? : Option Value) with
              | some (.str y _) => file == y
              | _ => false)
            | _ => false) = true := b13
          cases z : K.lookup cdr with
          | none =>
            rw [z] at b16
            cases b16
          | some oo =>
            obtain ⟨ocl, odd, odt, osl2⟩ := oo
            rw [z] at b16
            cases odt with
            | fields vs =>
              have b17 : (match (vs[2]? : Option Value) with
                | some (.str y _) => file == y
                | _ => false) = true := b16
              cases z2 : vs[2]? with
              | none =>
                rw [z2] at b17
                cases b17
              | some vv =>
                rw [z2] at b17
                cases vv with
                | str y tt => exact ⟨ocl, odd, vs, osl2, y, tt, rfl, z2, by rw [hf]; exact b17⟩
                | _ => cases b17
            | _ => cases b16
        · have b16 : (match K.lookup c1 with
            | some ⟨_, _, .cell (some (.ref D)), _⟩ => decide (D = ga K x)
            | _ => false) = true := b14
          cases z : K.lookup c1 with
          | none =>
            rw [z] at b16
            cases b16
          | some oo =>
            obtain ⟨ocl, odd, odt, osl2⟩ := oo
            rw [z] at b16
            cases odt with
            | cell ov =>
              cases ov with
              | none => cases b16
              | some vv =>
                cases vv with
                | ref D =>
                  have e : D = ga K x := of_decide_eq_true b16
                  rw [e]
                  exact ⟨ocl, odd, osl2, rfl⟩
                | _ => cases b16
            | _ => cases b16
      | _ => cases g1
    | _ => cases oc <;> cases g1
/-- an error's class without an __init__ of its own -/
def ebB (K : PySem.W.Frag) (x : PySem.Str) : Bool := eqO (PySem.W.nsIn K mainGlobals x) (some (some (.ref (ga K x)))) && (PySem.W.keepIn K (.ref (ga K x)) && (PySem.W.excInitIn K (ga K x) HandSPX.veTail "ValueError.__new__" &&
  (eqO (PySem.W.findIn K (.ref (ga K x)) "__init__") (some (some (.builtin "ValueError.__init__"))) && exiB K (ga K x))))
theorem ebB_ok {K : PySem.W.Frag} {h : Heap} {mg : PySem.Str → Option Value} {x : PySem.Str} (X : K.In h) (G : h.Ns mainGlobals mg) (b : ebB K x = true) : ExB K mg x (ga K x) ∧ ExI K (ga K x) := by
  unfold ebB at b
  simp only [Bool.and_eq_true] at b
  obtain ⟨b1, b2, b3, b4, b5⟩ := b
  exact ⟨⟨PySem.W.mg_of X G (eqO_ok b1), b2, b3, eqO_ok b4⟩, exiB_ok b5⟩
end NE

set_option Elab.async false
set_option linter.all false
set_option maxRecDepth 100000
set_option maxHeartbeats 2000000
/-! One rule an operator, whatever the operands are: the reading says which. -/
namespace U
open PySem PySem.Spec PyProof.Rows L2
def rAdd (K : PySem.W.Frag) : R2 := fun x y H Q => rI0 (fun i j => .int (i + j)) x y H Q ∨ (rCat x y H Q ∨ (rCatA K x y H Q ∨ (∃ i j, x = .str i ∧ y = .str j ∧ i.length + j.length ≤ sizeLine ∧ Q (.str (i ++ j)) H)))
def rMul (K : PySem.W.Frag) : R2 := fun x y H Q => rI CMulW (fun i j => .int (i * j)) x y H Q ∨ (rRep x y H Q ∨ ∃ (a : PySem.Str) (n : Int), x = .str a ∧ y = .int n ∧ MulOk a n ∧ Q (.str (Txt.mul a n)) H)
def rEqU (K : PySem.W.Frag) : R2 := fun x y H Q => rEq x y H Q ∨ rEqD K x y H Q
def rNeU (K : PySem.W.Frag) : R2 := fun x y H Q => rNe x y H Q ∨ rNeD K x y H Q
def rInU (K : PySem.W.Frag) : R2 := fun x y H Q => (∃ (c : Nat) (z : PySem.Str), x = .str ⟨#[c]⟩ ∧ y = .str z ∧ Q (.bl (decide (c ∈ z.cps.toList))) H) ∨ (rInD K x y H Q ∨ rIn K false x y H Q)
def rNiU (K : PySem.W.Frag) : R2 := fun x y H Q => (∃ (c : Nat) (z : PySem.Str), x = .str ⟨#[c]⟩ ∧ y = .str z ∧ Q (.bl (!decide (c ∈ z.cps.toList))) H) ∨ (rNotInD K x y H Q ∨ rIn K true x y H Q)
def rIxU (K : PySem.W.Frag) : R2 := fun x y H Q => rIxL K x y H Q ∨ (rIxT K x y H Q ∨ rIxS x y H Q)
def rSlU (K : PySem.W.Frag) : V → Option Int → Option Int → Hp → VK → Prop := fun x lo hi H Q => rSlL K x lo hi H Q ∨ rSlA K x lo hi H Q
section
variable {X : Cx}
theorem add : OpR X (binaryOp .Add) (rAdd X.K) := .or op_add (.or op_cat (.or op_catA op_add_str))
theorem sub : OpR X (binaryOp .Sub) (rI0 fun i j => .int (i - j)) := op_sub
theorem op_mulS : OpR X (binaryOp .Mult) (fun x y H Q => ∃ (a : PySem.Str) (n : Int), x = .str a ∧ y = .int n ∧ MulOk a n ∧ Q (.str (Txt.mul a n)) H) := by
  intro pins s σ H x y v u Q I rx ry h
  obtain ⟨a, n, rfl, rfl, ok, q⟩ := h
  obtain ⟨t, rfl⟩ := rx
  obtain ⟨t', rfl⟩ := ry
  exact SB.mul ok fun t2 k => ⟨.str _, H, I.tok k, ⟨t2, rfl⟩, q⟩
theorem mul : OpR X (binaryOp .Mult) (rMul X.K) := .or op_mulW (.or op_rep op_mulS)
theorem fdiv : OpR X (binaryOp .FloorDiv) (rI CDivW fun i j => .int (i / j)) := op_fdivW
theorem mod : OpR X (binaryOp .Mod) (rI (fun _ j => 0 < j) fun i j => .int (i % j)) := op_mod
theorem pow : OpR X (binaryOp .Pow) (rI CPow fun i j => .int (i ^ j.toNat)) := op_pow
theorem eq (hu : X.A.units + 64 < cLine) : OpR X (compareOp .Eq) (rEqU X.K) := .or op_eq (op_eqD hu)
theorem ne (hu : X.A.units + 64 < cLine) : OpR X (compareOp .NotEq) (rNeU X.K) := .or op_ne (op_neD hu)
theorem isIn (hu : X.A.units + 65 < cLine) : OpR X (compareOp .In) (rInU X.K) := .or op_in_sign (.or (op_inD hu) op_in_seq)
theorem notIn (hu : X.A.units + 65 < cLine) : OpR X (compareOp .NotIn) (rNiU X.K) := .or op_notIn_sign (.or (op_notInD hu) op_notIn_seq)
theorem ix : IxR X (rIxU X.K) := .or ix_list (.or ix_tup ix_str)
theorem sl : SlR X (rSlU X.K) := .or sl_list sl_tupA
/-! calls of built-ins -/
def rIsU (K : PySem.W.Frag) : List V → Hp → VK → Prop := fun xs H Q => NE.rIsX K xs H Q ∨ rIsi K xs H Q
theorem isi : CallR X (.builtin "isinstance") (rIsU X.K) := .or NE.call_isX call_isi
def rLenU (K : PySem.W.Frag) : List V → Hp → VK → Prop := fun xs H Q => (∃ p ys, xs = [.ref p] ∧ (SqL K H p ys ∨ SqT K H p ys) ∧ Q (.int ys.length) H) ∨ ((∃ z, xs = [.str z] ∧ z.length ≤ sizeLine ∧ Q (.int z.length) H) ∨ (∃ a kvs, xs = [V.ref a] ∧ H a = some (.dK kvs) ∧ Q (.int kvs.length) H))
theorem c_len : CallR X (.builtin "len") (rLenU X.K) := .or call_len_seq (.or call_len_str call_lenD)
theorem c_max (hc : X.calm = true := by rfl) : CallR X (.builtin "max") (fun xs H Q => ∃ i j, xs = [.int i, .int j] ∧ Q (.int (if j > i then j else i)) H) := call_max2 hc
theorem c_sum (hc : X.calm = true := by rfl) : CallR X (.builtin "sum") (rSum X.K) := cr_sum hc
theorem c_int : CallR X (.type "int") (fun xs H Q => (∃ i, xs = [.int i] ∧ Q (.int i) H) ∨ ∃ k, xs = [.bl k] ∧ Q (.int (if k then 1 else 0)) H) := call_int1
theorem glob {x : PySem.Str} {C : Addr} {pos : Pos} (hm : X.mg x = some (.ref C)) (hg : Gl X x := by rfl) (hd : (x == ("__debug__" : PySem.Str)) = false := by decide) : PE X (.Name x pos) (tC (.ref C)) := pe_glob hg hm rfl hd
theorem bty {x : PySem.Str} {n : String} {pos : Pos} (hm : X.mg x = none) (hv : bootBuiltins x = some (.type n)) (hg : Gl X x := by rfl) (hn : x ≠ "__name__" := by decide) (hd : (x == ("__debug__" : PySem.Str)) = false := by decide) : PE X (.Name x pos) (tC (.ty n)) := pe_bltn hg hm hv rfl hn hd
/-- for over a list or a tuple -/
def iSeq (K : PySem.W.Frag) (tl : TE) : TI := fun σ H R => iList K tl σ H R ∨ iTup K tl σ H R
theorem it {tg l : Expr} {tl : TE} (hl : PE X l tl) : PI X tg l (iSeq X.K tl) := ⟨fun pins s σ H R I h => by
  rcases h with h | h
  · exact (pi_list hl).run pins s σ H R I h
  · exact (pi_tup hl).run pins s σ H R I h⟩
end
theorem bo_isinstance : bootBuiltins "isinstance" = some (.builtin "isinstance") := by decide +kernel
theorem bo_len : bootBuiltins "len" = some (.builtin "len") := by decide +kernel
theorem bo_max : bootBuiltins "max" = some (.builtin "max") := by decide +kernel
theorem bo_min : bootBuiltins "min" = some (.builtin "min") := by decide +kernel
theorem bo_sum : bootBuiltins "sum" = some (.builtin "sum") := by decide +kernel
theorem bo_repr : bootBuiltins "repr" = some (.builtin "repr") := by decide +kernel
theorem bo_sorted : bootBuiltins "sorted" = some (.builtin "sorted") := by decide +kernel
theorem bo_int : bootBuiltins "int" = some (.type "int") := by decide +kernel
theorem bo_list : bootBuiltins "list" = some (.type "list") := by decide +kernel
theorem bo_tuple : bootBuiltins "tuple" = some (.type "tuple") := by decide +kernel
theorem bo_dict : bootBuiltins "dict" = some (.type "dict") := by decide +kernel
theorem bo_set : bootBuiltins "set" = some (.type "set") := by decide +kernel
theorem bo_str : bootBuiltins "str" = some (.type "str") := by decide +kernel
theorem bo_ValueError : bootBuiltins "ValueError" = some (.type "ValueError") := by decide +kernel
theorem bo_bool : bootBuiltins "bool" = some (.type "bool") := by decide +kernel
/-! data with dicts, as repr shows them -/
mutual
inductive Dq (H : Hp) : V → PyData → Prop
  | non : Dq H .non .none
  | bl (b : Bool) : Dq H (.bl b) (.bool b)
  | int (i : Int) : Dq H (.int i) (.int i)
  | str (x : PySem.Str) : Dq H (.str x) (.str x)
  | lst {a : Addr} {xs : List V} {ds : List PyData} : H a = some (.lst xs) → DqAll H xs ds → Dq H (.ref a) (.list ds)
  | tup {a : Addr} {xs : List V} {ds : List PyData} : H a = some (.tup xs) → DqAll H xs ds → Dq H (.ref a) (.tuple ds)
  | d0 {a : Addr} : H a = some (.dK []) → Dq H (.ref a) (.dict [])
  | d1 {a : Addr} {x : PySem.Str} {v : V} {d : PyData} : H a = some (.dK [(.inr x, v)]) → Dq H v d → Dq H (.ref a) (.dict [(.str x, d)])
inductive DqAll (H : Hp) : List V → List PyData → Prop
  | nil : DqAll H [] []
  | cons {v : V} {vs : List V} {d : PyData} {ds : List PyData} : Dq H v d → DqAll H vs ds → DqAll H (v :: vs) (d :: ds)
end
/-- the table of modules is a dict, that stands in the written part -/
def SmK (K : PySem.W.Frag) : Prop := ∃ o, K.lookup sysModules = some o ∧ o.cls = .type "dict"
theorem sm_ne {K : PySem.W.Frag} {h : Heap} {a : Addr} {o : Obj} {c : String} (X : K.In h) (sm : SmK K) (ho : h.get? a = some o) (hc : o.cls = .type c) (hn : c ≠ "dict") : sysModules ≠ a := fun e => by
  obtain ⟨o', l, c'⟩ := sm
  have z := X _ _ l
  rw [e, ho] at z
  cases z
  rw [hc] at c'
  injection c' with c2
  exact hn c2
mutual
theorem Dq.reads {P : Program} {w : World} {K : PySem.W.Frag} {H : Hp} {h : Heap} (O : HOk P w H h) (X : K.In h) (sm : SmK K) : ∀ (d : PyData) (v : V) (u : Value), Dq H v d → RelV v u → ∃ as, Reads h u d as ∧ sysModules ∉ as
  | .none, _, _, h, r => by
    cases h
    cases r
    exact ⟨_, Reads.none, fun z => nomatch z⟩
  | .bool b, _, _, h, r => by
    cases h
    cases r
    exact ⟨_, Reads.bool b, fun z => nomatch z⟩
  | .int i, _, _, h, r => by
    cases h
    obtain ⟨t, rfl⟩ := r
    exact ⟨_, Reads.int i t, fun z => nomatch z⟩
  | .str x, _, _, h, r => by
    cases h
    obtain ⟨t, rfl⟩ := r
    exact ⟨_, Reads.str x t, fun z => nomatch z⟩
  | .list ds, _, _, h, r => by
    cases h with
    | lst hs ha =>
      cases r
      obtain ⟨_, its, n, rv, ho⟩ := O _ _ hs
      obtain ⟨as, hr, hn⟩ := Dq.readsAll O X sm ds _ its ha rv
      refine ⟨_, Reads.list ho rfl rfl (by simpa using hr), fun z => ?_⟩
      rcases List.mem_cons.mp z with e | z
      · exact sm_ne (c := "list") X sm ho rfl (by decide) e
      · exact hn z
  | .tuple ds, _, _, h, r => by
    cases h with
    | tup hs ha =>
      cases r
      obtain ⟨_, its, rv, o, ho, hc, n, hd⟩ := O _ _ hs
      obtain ⟨as, hr, hn⟩ := Dq.readsAll O X sm ds _ its ha rv
      exact ⟨_, Reads.tuple ho hc hd (by simpa using hr), hn⟩
  | .dict [], _, _, h, r => by
    cases h with
    | d0 hs =>
      cases r
      obtain ⟨_, hn, vs, rv, o, es, ep, ho, hx, hd, _, hp, _⟩ := O _ _ hs
      cases rv
      have e0 : es.toList = [] := by
        generalize es.toList = l at hp
        cases hp
        rfl
      refine ⟨_, Reads.dict (kvs := []) (as := []) (bs := []) ho hx.1 hd (by rw [e0]; exact .nil) (by rw [e0]; exact .nil), fun z => ?_⟩
      rcases List.mem_cons.mp z with e | z
      · rw [← e] at hn
        cases hn
      · cases z
  | .dict [(.str x, d)], _, _, h, r => by
    cases h with
    | d1 hs hv =>
      cases r
      obtain ⟨_, hn, vs, rv, o, es, ep, ho, hx, hd, _, hp, _⟩ := O _ _ hs
      cases rv with
      | @cons _ kv _ _ r1 r2 =>
        cases r2
        obtain ⟨k0, u0⟩ := kv
        obtain ⟨r3, r4⟩ := r1
        obtain ⟨as, hr, hm⟩ := Dq.reads O X sm d _ u0 hv r4
        obtain ⟨e, e0, i1, i2⟩ : ∃ e : DictEntry, es.toList = [e] ∧ (mixKind P w).is k0 e.key = true ∧ e.val = u0 := by
          generalize es.toList = l at hp
          cases hp with
          | cons i1 i2 i3 =>
            cases i3
            exact ⟨_, rfl, i1, i2⟩
        cases (show (Sum.inr x : Key) = k0 from r3)
        obtain ⟨t, ek⟩ : ∃ t, e.key = Value.str x t := by
          rcases keyIs_shape (k := Sum.inr x) (v := e.key) (show keyIs (Sum.inr x) e.key = true from i1) with ⟨i, t, z, _⟩ | ⟨y, t, z, ez⟩
          · cases z
          · cases z
            exact ⟨t, ez⟩
        refine ⟨_, Reads.dict (kvs := [(.str x, d)]) (as := [] ++ []) (bs := as ++ []) ho hx.1 hd (by rw [e0]; exact .cons (by show Reads h e.key _ _; rw [ek]; exact .str x t) .nil) (by rw [e0]; exact .cons (by show Reads h e.val _ _; rw [i2]; exact hr) .nil), fun z => ?_⟩
        rcases List.mem_cons.mp z with e | z
        · rw [← e] at hn
          cases hn
        · have z2 : sysModules ∈ as ++ [] := z
          rw [List.append_nil] at z2
          exact hm z2
  | .dict ((.none, _) :: _), _, _, h, _ => by cases h
  | .dict ((.bool _, _) :: _), _, _, h, _ => by cases h
  | .dict ((.int _, _) :: _), _, _, h, _ => by cases h
  | .dict ((.list _, _) :: _), _, _, h, _ => by cases h
  | .dict ((.tuple _, _) :: _), _, _, h, _ => by cases h
  | .dict ((.dict _, _) :: _), _, _, h, _ => by cases h
  | .dict (_ :: _ :: _), _, _, h, _ => by cases h
theorem Dq.readsAll {P : Program} {w : World} {K : PySem.W.Frag} {H : Hp} {h : Heap} (O : HOk P w H h) (X : K.In h) (sm : SmK K) : ∀ (ds : List PyData) (vs : List V) (us : List Value), DqAll H vs ds → Vals vs us → ∃ as, ReadsAll h us ds as ∧ sysModules ∉ as
  | [], _, _, h, r => by
    cases h
    cases r
    exact ⟨_, ReadsAll.nil, fun z => nomatch z⟩
  | d :: ds, _, _, h, r => by
    cases h with
    | cons h1 h2 =>
      cases r with
      | cons r1 r2 =>
        obtain ⟨as, q1, n1⟩ := Dq.reads O X sm d _ _ h1 r1
        obtain ⟨bs, q2, n2⟩ := Dq.readsAll O X sm ds _ _ h2 r2
        exact ⟨_, ReadsAll.cons q1 q2, fun z => (List.mem_append.mp z).elim n1 n2⟩
end
def rRepr : List V → Hp → VK → Prop := fun xs H Q => ∃ (p : Addr) (d : PyData), xs = [.ref p] ∧ Dq H (.ref p) d ∧ d.showable = true ∧ d.depth ≤ 20 ∧ d.shown.length ≤ sizeLine ∧ Q (.str d.shown) H
theorem c_repr {X : Cx} (sm : SmK X.K) (hg : X.A.guards = some []) (hu : X.A.units + 64 < cLine) : CallR X (.builtin "repr") rRepr := by
  intro pins s σ H xs us Q I r h
  obtain ⟨p, d, rfl, hd, h1, h2, h3, q⟩ := h
  rw [Vals.ref1 r]
  obtain ⟨as, hr, hn⟩ := Dq.reads I.hok I.kIn sm d _ _ hd (show RelV (.ref p) (Value.ref p) from rfl)
  exact repr_of_reads' hr h1 (fun _ => hn) hg (by omega) (fun _ _ z => z) (fun h' u tk hk => ⟨.str _, H, I.kept hk, ⟨u, rfl⟩, q⟩) h3
end U
/-! the same inside a comprehension: the written part is named, for the reading is one for all blocks -/
namespace UK
open PySem PySem.Spec PyProof.Rows L2
variable {X : Cx} (K : PySem.W.Frag)
theorem add (h : X.K = K := by rfl) : OpR X (binaryOp .Add) (U.rAdd K) := h ▸ U.add
theorem mul (h : X.K = K := by rfl) : OpR X (binaryOp .Mult) (U.rMul K) := h ▸ U.mul
theorem eq (hu : X.A.units + 64 < cLine) (h : X.K = K := by rfl) : OpR X (compareOp .Eq) (U.rEqU K) := h ▸ U.eq hu
theorem ne (hu : X.A.units + 64 < cLine) (h : X.K = K := by rfl) : OpR X (compareOp .NotEq) (U.rNeU K) := h ▸ U.ne hu
theorem isIn (hu : X.A.units + 65 < cLine) (h : X.K = K := by rfl) : OpR X (compareOp .In) (U.rInU K) := h ▸ U.isIn hu
theorem notIn (hu : X.A.units + 65 < cLine) (h : X.K = K := by rfl) : OpR X (compareOp .NotIn) (U.rNiU K) := h ▸ U.notIn hu
theorem ix (h : X.K = K := by rfl) : IxR X (U.rIxU K) := h ▸ U.ix
theorem sl (h : X.K = K := by rfl) : SlR X (U.rSlU K) := h ▸ U.sl
theorem isi (h : X.K = K := by rfl) : CallR X (.builtin "isinstance") (U.rIsU K) := h ▸ U.isi
theorem c_len (h : X.K = K := by rfl) : CallR X (.builtin "len") (U.rLenU K) := h ▸ U.c_len
theorem c_sum (h : X.K = K := by rfl) (hc : X.calm = true := by rfl) : CallR X (.builtin "sum") (rSum K) := h ▸ U.c_sum hc
theorem it {tg l : Expr} {tl : TE} (hl : PE X l tl) (h : X.K = K := by rfl) : PI X tg l (U.iSeq K tl) := h ▸ U.it hl
theorem errF {f : PySem.Str} {pos : Pos} {e : Expr} {te : TE} (he : PE X e te) (h : X.K = K := by rfl) (hb : attributeBase e f X.env (eval e X.env) = eval e X.env := by rfl) : PE X (.Attribute e f pos) (NE.tErrF K f te) := h ▸ NE.pe_errF he hb
end UK

set_option Elab.async false
set_option linter.all false
set_option maxRecDepth 100000
set_option maxHeartbeats 0
namespace K01
open PySem PySem.Spec PyProof.Rows L2 NE He
def top (i : Nat) : Stmt := PySem.Challenge.pw_neverapart_k01_errors_made.main.body.getD i (.Pass ⟨0, 0, 0, 0⟩)
def d_m_InvalidFact_init : Df := { pl := .m "InvalidFact" "__init__", name := "__init__", qual := "InvalidFact.__init__", st := inClass (top 2) 0, dfl := [.non], clo := ["__class__"] }
def d_m_InvalidStore_init : Df := { pl := .m "InvalidStore" "__init__", name := "__init__", qual := "InvalidStore.__init__", st := inClass (top 3) 0, dfl := [.non], clo := ["__class__"] }
def d_m_InvalidRule_init : Df := { pl := .m "InvalidRule" "__init__", name := "__init__", qual := "InvalidRule.__init__", st := inClass (top 4) 0, dfl := [.non], clo := ["__class__"] }
def d_m_InvalidBook_init : Df := { pl := .m "InvalidBook" "__init__", name := "__init__", qual := "InvalidBook.__init__", st := inClass (top 5) 0, dfl := [.non], clo := ["__class__"] }
def d_m_InvalidQuestion_init : Df := { pl := .m "InvalidQuestion" "__init__", name := "__init__", qual := "InvalidQuestion.__init__", st := inClass (top 6) 0, dfl := [.non], clo := ["__class__"] }
def d_m_InvalidDeed_init : Df := { pl := .m "InvalidDeed" "__init__", name := "__init__", qual := "InvalidDeed.__init__", st := inClass (top 7) 0, dfl := [.non], clo := ["__class__"] }
def d_m_InvalidLot_init : Df := { pl := .m "InvalidLot" "__init__", name := "__init__", qual := "InvalidLot.__init__", st := inClass (top 8) 0, dfl := [.non], clo := ["__class__"] }
def d_m_InvalidNames_init : Df := { pl := .m "InvalidNames" "__init__", name := "__init__", qual := "InvalidNames.__init__", st := inClass (top 9) 0, dfl := [.non], clo := ["__class__"] }
def d_m_InvalidLayers_init : Df := { pl := .m "InvalidLayers" "__init__", name := "__init__", qual := "InvalidLayers.__init__", st := inClass (top 10) 0, dfl := [.non], clo := ["__class__"] }
def d_m_InvalidName_init : Df := { pl := .m "InvalidName" "__init__", name := "__init__", qual := "InvalidName.__init__", st := inClass (top 11) 0, dfl := [.non], clo := ["__class__"] }
def d_m_InvalidLog_init : Df := { pl := .m "InvalidLog" "__init__", name := "__init__", qual := "InvalidLog.__init__", st := inClass (top 12) 0, dfl := [.non], clo := ["__class__"] }
def d_m_InvalidText_init : Df := { pl := .m "InvalidText" "__init__", name := "__init__", qual := "InvalidText.__init__", st := inClass (top 13) 0, dfl := [.non], clo := ["__class__"] }
def d_m_InvalidNumber_init : Df := { pl := .m "InvalidNumber" "__init__", name := "__init__", qual := "InvalidNumber.__init__", st := inClass (top 14) 0, dfl := [.non], clo := ["__class__"] }
def d_m_UnknownName_init : Df := { pl := .m "UnknownName" "__init__", name := "__init__", qual := "UnknownName.__init__", st := inClass (top 15) 0, dfl := [.non], clo := ["__class__"] }
def d_m_TakenName_init : Df := { pl := .m "TakenName" "__init__", name := "__init__", qual := "TakenName.__init__", st := inClass (top 16) 0, dfl := [.non], clo := ["__class__"] }
def d_m_NotPlain_init : Df := { pl := .m "NotPlain" "__init__", name := "__init__", qual := "NotPlain.__init__", st := inClass (top 17) 0, dfl := [.non], clo := ["__class__"] }
def d_m_NotLayered_init : Df := { pl := .m "NotLayered" "__init__", name := "__init__", qual := "NotLayered.__init__", st := inClass (top 18) 0, dfl := [.non], clo := ["__class__"] }
def d_m_NotFiring_init : Df := { pl := .m "NotFiring" "__init__", name := "__init__", qual := "NotFiring.__init__", st := inClass (top 19) 0, dfl := [.non], clo := ["__class__"] }
def d_m_TooMany_init : Df := { pl := .m "TooMany" "__init__", name := "__init__", qual := "TooMany.__init__", st := inClass (top 20) 0, dfl := [.non], clo := ["__class__"] }
def d_m_InvalidGoal_init : Df := { pl := .m "InvalidGoal" "__init__", name := "__init__", qual := "InvalidGoal.__init__", st := inClass (top 21) 0, dfl := [.non], clo := ["__class__"] }
def d_m_InvalidScript_init : Df := { pl := .m "InvalidScript" "__init__", name := "__init__", qual := "InvalidScript.__init__", st := inClass (top 22) 0, dfl := [.non], clo := ["__class__"] }
def d_m_InvalidEdition_init : Df := { pl := .m "InvalidEdition" "__init__", name := "__init__", qual := "InvalidEdition.__init__", st := inClass (top 23) 0, dfl := [.non], clo := ["__class__"] }
def d_m_InvalidGuard_init : Df := { pl := .m "InvalidGuard" "__init__", name := "__init__", qual := "InvalidGuard.__init__", st := inClass (top 24) 0, dfl := [.non], clo := ["__class__"] }
def d_m_InvalidDates_init : Df := { pl := .m "InvalidDates" "__init__", name := "__init__", qual := "InvalidDates.__init__", st := inClass (top 25) 0, dfl := [.non], clo := ["__class__"] }
def d_m_InvalidChances_init : Df := { pl := .m "InvalidChances" "__init__", name := "__init__", qual := "InvalidChances.__init__", st := inClass (top 26) 0, dfl := [.non], clo := ["__class__"] }
def d_m_NotMeeting_init : Df := { pl := .m "NotMeeting" "__init__", name := "__init__", qual := "NotMeeting.__init__", st := inClass (top 27) 0, dfl := [.non], clo := ["__class__"] }
def d_m_Unsound_init : Df := { pl := .m "Unsound" "__init__", name := "__init__", qual := "Unsound.__init__", st := inClass (top 28) 0, dfl := [.non], clo := ["__class__"] }
def d_g_law_made : Df := { pl := .g "_law_made", name := "_law_made", qual := "_law_made", st := top 32, dfl := [], clo := [] }
def d_g_law_classes : Df := { pl := .g "_law_classes", name := "_law_classes", qual := "_law_classes", st := top 33, dfl := [], clo := [] }
def d_g_law_placed : Df := { pl := .g "_law_placed", name := "_law_placed", qual := "_law_placed", st := top 34, dfl := [], clo := [] }
def d_g_law_thing : Df := { pl := .g "_law_thing", name := "_law_thing", qual := "_law_thing", st := top 35, dfl := [], clo := [] }
def d_g_law_by_name : Df := { pl := .g "_law_by_name", name := "_law_by_name", qual := "_law_by_name", st := top 36, dfl := [], clo := [] }
def d_g_law_bare : Df := { pl := .g "_law_bare", name := "_law_bare", qual := "_law_bare", st := top 37, dfl := [], clo := [] }
def d_g_law_fields : Df := { pl := .g "_law_fields", name := "_law_fields", qual := "_law_fields", st := top 38, dfl := [], clo := [] }
def d_g_law : Df := { pl := .g "law", name := "law", qual := "law", st := top 39, dfl := [], clo := [] }
def fn0 : List Df := [d_m_InvalidFact_init, d_m_InvalidStore_init, d_m_InvalidRule_init, d_m_InvalidBook_init, d_m_InvalidQuestion_init, d_m_InvalidDeed_init, d_m_InvalidLot_init, d_m_InvalidNames_init, d_m_InvalidLayers_init, d_m_InvalidName_init, d_m_InvalidLog_init, d_m_InvalidText_init, d_m_InvalidNumber_init, d_m_UnknownName_init, d_m_TakenName_init, d_m_NotPlain_init, d_m_NotLayered_init, d_m_NotFiring_init, d_m_TooMany_init, d_m_InvalidGoal_init, d_m_InvalidScript_init, d_m_InvalidEdition_init, d_m_InvalidGuard_init, d_m_InvalidDates_init, d_m_InvalidChances_init, d_m_NotMeeting_init, d_m_Unsound_init, d_g_law_made, d_g_law_classes, d_g_law_placed]
def fn1 : List Df := [d_g_law_thing, d_g_law_by_name, d_g_law_bare, d_g_law_fields, d_g_law]
def fn : List Df := fn0 ++ fn1
def loose0 : List PySem.Str := ["NeverError", "InvalidFact", "InvalidStore", "InvalidRule", "InvalidBook", "InvalidQuestion", "InvalidDeed", "InvalidLot", "InvalidNames", "InvalidLayers", "InvalidName", "InvalidLog", "InvalidText", "InvalidNumber", "UnknownName", "TakenName", "NotPlain", "NotLayered", "NotFiring", "TooMany", "InvalidGoal", "InvalidScript", "InvalidEdition", "InvalidGuard", "InvalidDates", "InvalidChances", "NotMeeting", "Unsound", "NothingToUndo", "NothingToRedo"]
def loose1 : List PySem.Str := ["_law_made", "_law_classes", "_law_placed", "_law_thing", "_law_by_name", "_law_bare", "_law_fields"]
def loose : List PySem.Str := loose0 ++ loose1
def exs : List (PySem.Str × PySem.Str) := [("InvalidFact", "value"), ("InvalidStore", "value"), ("InvalidRule", "value"), ("InvalidBook", "value"), ("InvalidQuestion", "value"), ("InvalidDeed", "value"), ("InvalidLot", "value"), ("InvalidNames", "value"), ("InvalidLayers", "value"), ("InvalidName", "value"), ("InvalidLog", "value"), ("InvalidText", "value"), ("InvalidNumber", "value"), ("UnknownName", "value"), ("TakenName", "value"), ("NotPlain", "value"), ("NotLayered", "ring"), ("NotFiring", "value"), ("TooMany", "most"), ("InvalidGoal", "value"), ("InvalidScript", "value"), ("InvalidEdition", "value"), ("InvalidGuard", "value"), ("InvalidDates", "value"), ("InvalidChances", "value"), ("NotMeeting", "conflicts"), ("Unsound", "value")]
def ebs : List PySem.Str := ["NeverError", "NothingToUndo", "NothingToRedo"]
-- LAW 39

def cls29 : List PySem.Str := ["InvalidFact", "InvalidStore", "InvalidRule", "InvalidBook", "InvalidQuestion", "InvalidDeed", "InvalidGoal", "InvalidScript", "InvalidEdition", "InvalidGuard", "InvalidDates", "InvalidChances", "InvalidLot", "InvalidNames", "InvalidLayers", "InvalidName", "InvalidLog", "InvalidText", "InvalidNumber", "UnknownName", "TakenName", "NotPlain", "NotFiring", "Unsound", "NotLayered", "TooMany", "NotMeeting", "NothingToUndo", "NothingToRedo"]
def glos : List PySem.Str := ["_law_made", "_law_classes", "_law_placed", "_law_thing", "_law_by_name", "_law_bare", "_law_fields", "law"]
def frees : List PySem.Str := ["isinstance", "enumerate", "range", "len", "max", "sum", "repr", "int", "ValueError", "list"]
def kitB2 (K : PySem.W.Frag) (a : Addr) (c : Value) (b : Bool) : Bool := decide (PySem.W.kitOne K (.ref a) c = some b)
def chkKit (K : PySem.W.Frag) : Bool := (cls29.all fun a => (cls29.all fun c => kitB2 K (ga K a) (.ref (ga K c)) (decide (a = c))) && (kitB2 K (ga K a) (.ref (ga K "NeverError")) true && kitB2 K (ga K a) (.type "ValueError") true)) && ((cls29.all fun c => kitB2 K (ga K "NeverError") (.ref (ga K c)) false) && kitB2 K (ga K "NeverError") (.type "ValueError") true)
def chkEx (K : PySem.W.Frag) : Bool := exs.all (fun p => exB "/claim/cut.py" K p.1 p.2) && ebs.all (fun x => ebB K x)
def smB (K : PySem.W.Frag) : Bool := match K.lookup sysModules with
  | some ⟨.type c, _, _, _⟩ => decide (c = "dict")
  | _ => false
def chkG (K : PySem.W.Frag) : Bool := (glos.all fun x => eqO (PySem.W.nsIn K mainGlobals x) (some (some (.ref (ga K x))))) && ((frees.all fun x => eqO (PySem.W.nsIn K mainGlobals x) (some none)) && smB K)
def chk (K : PySem.W.Frag) : Bool := chkEx K && (chkKit K && chkG K)
abbrev R : PySem.W.OpenRow := PySem.W.OpenLaw.row PySem.Challenge.rw_neverapart_k01_errors_made
abbrev hk : PySem.W.Hook := hkB 6 fn chk
def ob (s : PySem.W.SharedT) : AlB := obB 6 fn chk (HandSHeadRun.getT s)
theorem ob_eq (s : PySem.W.SharedT) : ob s = hk.obs s.abs := obB_eq (HandSHeadRun.getT_eq s)
theorem run (w : World) : HandSHeadRun.RunEq R (PySem.W.view R.prog [39]) hk ob 20000 loose w := by
  intro os
  kernel_rfl
end K01

set_option Elab.async false
set_option linter.all false
set_option maxRecDepth 100000
set_option maxHeartbeats 0
namespace K01
open PySem PySem.Spec PyProof.Rows L2 NE He
/-- all that the written part says, once the top has run -/
structure Txt (K : PySem.W.Frag) (mg : PySem.Str → Option Value) : Prop where
  c : SaysB fn chk K
  ex : ∃ h : Heap, K.In h ∧ h.Ns mainGlobals mg
abbrev PP : Program := R.prog
section
variable {K : PySem.W.Frag} {mg : PySem.Str → Option Value}
theorem Txt.c1 (T : Txt K mg) : chkEx K = true ∧ chkKit K = true ∧ chkG K = true := by
  have h := T.c.ok
  unfold chk at h
  simp only [Bool.and_eq_true] at h
  exact h
theorem Txt.cx (T : Txt K mg) {x f : PySem.Str} (h : (x, f) ∈ exs) : exB "/claim/cut.py" K x f = true := by
  have h1 := T.c1.1
  unfold chkEx at h1
  simp only [Bool.and_eq_true] at h1
  exact List.all_eq_true.mp h1.1 _ h
theorem Txt.cb (T : Txt K mg) {x : PySem.Str} (h : x ∈ ebs) : ebB K x = true := by
  have h1 := T.c1.1
  unfold chkEx at h1
  simp only [Bool.and_eq_true] at h1
  exact List.all_eq_true.mp h1.2 _ h
theorem Txt.cg (T : Txt K mg) {x : PySem.Str} (h : x ∈ glos) : mg x = some (.ref (ga K x)) := by
  have h1 := T.c1.2.2
  unfold chkG at h1
  simp only [Bool.and_eq_true] at h1
  obtain ⟨hh, X, G⟩ := T.ex
  exact PySem.W.mg_of X G (eqO_ok (List.all_eq_true.mp h1.1 _ h))
theorem Txt.cf (T : Txt K mg) {x : PySem.Str} (h : x ∈ frees) : mg x = none := by
  have h1 := T.c1.2.2
  unfold chkG at h1
  simp only [Bool.and_eq_true] at h1
  obtain ⟨hh, X, G⟩ := T.ex
  exact PySem.W.mg_none_of X G (eqO_ok (List.all_eq_true.mp h1.2.1 _ h))
theorem Txt.sm (T : Txt K mg) : U.SmK K := by
  have h1 := T.c1.2.2
  unfold chkG smB at h1
  simp only [Bool.and_eq_true] at h1
  have h2 := h1.2.2
  unfold U.SmK
  cases q : K.lookup sysModules with
  | none =>
    rw [q] at h2
    cases h2
  | some o =>
    obtain ⟨oc, od, dt, sl⟩ := o
    rw [q] at h2
    cases oc with
    | type c =>
      have e : c = "dict" := of_decide_eq_true h2
      exact ⟨_, rfl, by rw [e]⟩
    | _ => cases h2
theorem Txt.kit (T : Txt K mg) {a c : PySem.Str} (ha : a ∈ cls29) (hc : c ∈ cls29) : PySem.W.kitOne K (.ref (ga K a)) (.ref (ga K c)) = some (decide (a = c)) := by
  have h1 := T.c1.2.1
  unfold chkKit at h1
  simp only [Bool.and_eq_true] at h1
  have h2 := List.all_eq_true.mp h1.1 _ ha
  simp only [Bool.and_eq_true] at h2
  have h3 := List.all_eq_true.mp h2.1 _ hc
  exact of_decide_eq_true h3
theorem Txt.kitN (T : Txt K mg) {a : PySem.Str} (ha : a ∈ cls29) : PySem.W.kitOne K (.ref (ga K a)) (.ref (ga K "NeverError")) = some true := by
  have h1 := T.c1.2.1
  unfold chkKit at h1
  simp only [Bool.and_eq_true] at h1
  have h2 := List.all_eq_true.mp h1.1 _ ha
  simp only [Bool.and_eq_true] at h2
  exact of_decide_eq_true h2.2.1
theorem Txt.kitV (T : Txt K mg) {a : PySem.Str} (ha : a ∈ cls29) : PySem.W.kitOne K (.ref (ga K a)) (.type "ValueError") = some true := by
  have h1 := T.c1.2.1
  unfold chkKit at h1
  simp only [Bool.and_eq_true] at h1
  have h2 := List.all_eq_true.mp h1.1 _ ha
  simp only [Bool.and_eq_true] at h2
  exact of_decide_eq_true h2.2.2
theorem Txt.kit0 (T : Txt K mg) {c : PySem.Str} (hc : c ∈ cls29) : PySem.W.kitOne K (.ref (ga K "NeverError")) (.ref (ga K c)) = some false := by
  have h1 := T.c1.2.1
  unfold chkKit at h1
  simp only [Bool.and_eq_true] at h1
  exact of_decide_eq_true (List.all_eq_true.mp h1.2.1 _ hc)
theorem Txt.kit1 (T : Txt K mg) : PySem.W.kitOne K (.ref (ga K "NeverError")) (.type "ValueError") = some true := by
  have h1 := T.c1.2.1
  unfold chkKit at h1
  simp only [Bool.and_eq_true] at h1
  exact of_decide_eq_true h1.2.2
abbrev ExT (K : PySem.W.Frag) (mg : PySem.Str → Option Value) (x f : PySem.Str) : Prop := ExTxt PP K mg x f (ga K x) (ma K (ga K x) "__init__") (cdaOf K (ma K (ga K x) "__init__")) (ccOf K (ma K (ga K x) "__init__"))
abbrev Ex4 (K : PySem.W.Frag) (mg : PySem.Str → Option Value) (x f : PySem.Str) : Prop := ExT K mg x f ∧ ExI K (ga K x) ∧ PySem.W.hasDictIn K (ga K x) = true ∧ PySem.W.findIn K (.ref (ga K x)) f = some none
theorem fileP : (PP.main.file : PySem.Str) = ("/claim/cut.py" : PySem.Str) := by kernel_rfl
theorem superP : (PP.main.scope.names.lookup ("super" : PySem.Str)).isSome = false := by kernel_rfl
theorem ex4 (T : Txt K mg) {x f : PySem.Str} {d : Df} (h : (x, f) ∈ exs) (hd : d ∈ fn) (h1 : d.pl = .m x "__init__") (h2 : d.name = "__init__") (h3 : d.dfl = [.non]) (h4 : d.clo = [("__class__" : PySem.Str)]) (h5 : ExSt d.st f) (f4 : f = "value" ∨ f = "ring" ∨ f = "most" ∨ f = "conflicts") : Ex4 K mg x f := by
  obtain ⟨hh, X, G⟩ := T.ex
  exact exB_ok X G (T.cx h) T.c hd h1 h2 h3 h4 h5 f4 fileP superP
theorem eb2 (T : Txt K mg) {x : PySem.Str} (h : x ∈ ebs) : ExB K mg x (ga K x) ∧ ExI K (ga K x) := by
  obtain ⟨hh, X, G⟩ := T.ex
  exact ebB_ok X G (T.cb h)
theorem exSt_of {st : Stmt} {f : PySem.Str} {p1 p2 p3 q1 q2 q3 q4 q5 q6 q7 q8 q9 : Pos} (h1 : defArgs st = iA f p1 p2 p3) (h2 : defBody st = iB f q1 q2 q3 q4 q5 q6 q7 q8 q9) (h3 : defScope st = iS f) (h4 : (q3.endLine == q4.line) = true) : ExSt st f :=
  ⟨p1, p2, p3, q1, q2, q3, q4, q5, q6, q7, q8, q9, h1, h2, h3, h4⟩
theorem st0 : ExSt d_m_InvalidFact_init.st "value" := exSt_of rfl rfl rfl rfl
theorem Txt.x0 (T : Txt K mg) : Ex4 K mg "InvalidFact" "value" := ex4 T (d := d_m_InvalidFact_init) (.head _) (.head _) rfl rfl rfl rfl st0 (.inl rfl)
theorem Txt.e0 (T : Txt K mg) : ExT K mg "InvalidFact" "value" := T.x0.1
theorem Txt.gx0 (T : Txt K mg) : mg "InvalidFact" = some (.ref (ga K "InvalidFact")) := T.x0.1.gC
theorem st1 : ExSt d_m_InvalidStore_init.st "value" := exSt_of rfl rfl rfl rfl
theorem Txt.x1 (T : Txt K mg) : Ex4 K mg "InvalidStore" "value" := ex4 T (d := d_m_InvalidStore_init) (.tail _ (.head _)) (.tail _ (.head _)) rfl rfl rfl rfl st1 (.inl rfl)
theorem Txt.e1 (T : Txt K mg) : ExT K mg "InvalidStore" "value" := T.x1.1
theorem Txt.gx1 (T : Txt K mg) : mg "InvalidStore" = some (.ref (ga K "InvalidStore")) := T.x1.1.gC
theorem st2 : ExSt d_m_InvalidRule_init.st "value" := exSt_of rfl rfl rfl rfl
theorem Txt.x2 (T : Txt K mg) : Ex4 K mg "InvalidRule" "value" := ex4 T (d := d_m_InvalidRule_init) (.tail _ (.tail _ (.head _))) (.tail _ (.tail _ (.head _))) rfl rfl rfl rfl st2 (.inl rfl)
theorem Txt.e2 (T : Txt K mg) : ExT K mg "InvalidRule" "value" := T.x2.1
theorem Txt.gx2 (T : Txt K mg) : mg "InvalidRule" = some (.ref (ga K "InvalidRule")) := T.x2.1.gC
theorem st3 : ExSt d_m_InvalidBook_init.st "value" := exSt_of rfl rfl rfl rfl
theorem Txt.x3 (T : Txt K mg) : Ex4 K mg "InvalidBook" "value" := ex4 T (d := d_m_InvalidBook_init) (.tail _ (.tail _ (.tail _ (.head _)))) (.tail _ (.tail _ (.tail _ (.head _)))) rfl rfl rfl rfl st3 (.inl rfl)
theorem Txt.e3 (T : Txt K mg) : ExT K mg "InvalidBook" "value" := T.x3.1
theorem Txt.gx3 (T : Txt K mg) : mg "InvalidBook" = some (.ref (ga K "InvalidBook")) := T.x3.1.gC
theorem st4 : ExSt d_m_InvalidQuestion_init.st "value" := exSt_of rfl rfl rfl rfl
theorem Txt.x4 (T : Txt K mg) : Ex4 K mg "InvalidQuestion" "value" := ex4 T (d := d_m_InvalidQuestion_init) (.tail _ (.tail _ (.tail _ (.tail _ (.head _))))) (.tail _ (.tail _ (.tail _ (.tail _ (.head _))))) rfl rfl rfl rfl st4 (.inl rfl)
theorem Txt.e4 (T : Txt K mg) : ExT K mg "InvalidQuestion" "value" := T.x4.1
theorem Txt.gx4 (T : Txt K mg) : mg "InvalidQuestion" = some (.ref (ga K "InvalidQuestion")) := T.x4.1.gC
theorem st5 : ExSt d_m_InvalidDeed_init.st "value" := exSt_of rfl rfl rfl rfl
theorem Txt.x5 (T : Txt K mg) : Ex4 K mg "InvalidDeed" "value" := ex4 T (d := d_m_InvalidDeed_init) (.tail _ (.tail _ (.tail _ (.tail _ (.tail _ (.head _)))))) (.tail _ (.tail _ (.tail _ (.tail _ (.tail _ (.head _)))))) rfl rfl rfl rfl st5 (.inl rfl)
theorem Txt.e5 (T : Txt K mg) : ExT K mg "InvalidDeed" "value" := T.x5.1
theorem Txt.gx5 (T : Txt K mg) : mg "InvalidDeed" = some (.ref (ga K "InvalidDeed")) := T.x5.1.gC
theorem st6 : ExSt d_m_InvalidLot_init.st "value" := exSt_of rfl rfl rfl rfl
theorem Txt.x6 (T : Txt K mg) : Ex4 K mg "InvalidLot" "value" := ex4 T (d := d_m_InvalidLot_init) (.tail _ (.tail _ (.tail _ (.tail _ (.tail _ (.tail _ (.head _))))))) (.tail _ (.tail _ (.tail _ (.tail _ (.tail _ (.tail _ (.head _))))))) rfl rfl rfl rfl st6 (.inl rfl)
theorem Txt.e6 (T : Txt K mg) : ExT K mg "InvalidLot" "value" := T.x6.1
theorem Txt.gx6 (T : Txt K mg) : mg "InvalidLot" = some (.ref (ga K "InvalidLot")) := T.x6.1.gC
theorem st7 : ExSt d_m_InvalidNames_init.st "value" := exSt_of rfl rfl rfl rfl
theorem Txt.x7 (T : Txt K mg) : Ex4 K mg "InvalidNames" "value" := ex4 T (d := d_m_InvalidNames_init) (.tail _ (.tail _ (.tail _ (.tail _ (.tail _ (.tail _ (.tail _ (.head _)))))))) (.tail _ (.tail _ (.tail _ (.tail _ (.tail _ (.tail _ (.tail _ (.head _)))))))) rfl rfl rfl rfl st7 (.inl rfl)
theorem Txt.e7 (T : Txt K mg) : ExT K mg "InvalidNames" "value" := T.x7.1
theorem Txt.gx7 (T : Txt K mg) : mg "InvalidNames" = some (.ref (ga K "InvalidNames")) := T.x7.1.gC
theorem st8 : ExSt d_m_InvalidLayers_init.st "value" := exSt_of rfl rfl rfl rfl
theorem Txt.x8 (T : Txt K mg) : Ex4 K mg "InvalidLayers" "value" := ex4 T (d := d_m_InvalidLayers_init) (.tail _ (.tail _ (.tail _ (.tail _ (.tail _ (.tail _ (.tail _ (.tail _ (.head _))))))))) (.tail _ (.tail _ (.tail _ (.tail _ (.tail _ (.tail _ (.tail _ (.tail _ (.head _))))))))) rfl rfl rfl rfl st8 (.inl rfl)
theorem Txt.e8 (T : Txt K mg) : ExT K mg "InvalidLayers" "value" := T.x8.1
theorem Txt.gx8 (T : Txt K mg) : mg "InvalidLayers" = some (.ref (ga K "InvalidLayers")) := T.x8.1.gC
theorem st9 : ExSt d_m_InvalidName_init.st "value" := exSt_of rfl rfl rfl rfl
theorem Txt.x9 (T : Txt K mg) : Ex4 K mg "InvalidName" "value" := ex4 T (d := d_m_InvalidName_init) (.tail _ (.tail _ (.tail _ (.tail _ (.tail _ (.tail _ (.tail _ (.tail _ (.tail _ (.head _)))))))))) (.tail _ (.tail _ (.tail _ (.tail _ (.tail _ (.tail _ (.tail _ (.tail _ (.tail _ (.head _)))))))))) rfl rfl rfl rfl st9 (.inl rfl)
theorem Txt.e9 (T : Txt K mg) : ExT K mg "InvalidName" "value" := T.x9.1
theorem Txt.gx9 (T : Txt K mg) : mg "InvalidName" = some (.ref (ga K "InvalidName")) := T.x9.1.gC
theorem st10 : ExSt d_m_InvalidLog_init.st "value" := exSt_of rfl rfl rfl rfl
theorem Txt.x10 (T : Txt K mg) : Ex4 K mg "InvalidLog" "value" := ex4 T (d := d_m_InvalidLog_init) (.tail _ (.tail _ (.tail _ (.tail _ (.tail _ (.tail _ (.tail _ (.tail _ (.tail _ (.tail _ (.head _))))))))))) (.tail _ (.tail _ (.tail _ (.tail _ (.tail _ (.tail _ (.tail _ (.tail _ (.tail _ (.tail _ (.head _))))))))))) rfl rfl rfl rfl st10 (.inl rfl)
theorem Txt.e10 (T : Txt K mg) : ExT K mg "InvalidLog" "value" := T.x10.1
theorem Txt.gx10 (T : Txt K mg) : mg "InvalidLog" = some (.ref (ga K "InvalidLog")) := T.x10.1.gC
theorem st11 : ExSt d_m_InvalidText_init.st "value" := exSt_of rfl rfl rfl rfl
theorem Txt.x11 (T : Txt K mg) : Ex4 K mg "InvalidText" "value" := ex4 T (d := d_m_InvalidText_init) (.tail _ (.tail _ (.tail _ (.tail _ (.tail _ (.tail _ (.tail _ (.tail _ (.tail _ (.tail _ (.tail _ (.head _)))))))))))) (.tail _ (.tail _ (.tail _ (.tail _ (.tail _ (.tail _ (.tail _ (.tail _ (.tail _ (.tail _ (.tail _ (.head _)))))))))))) rfl rfl rfl rfl st11 (.inl rfl)
theorem Txt.e11 (T : Txt K mg) : ExT K mg "InvalidText" "value" := T.x11.1
theorem Txt.gx11 (T : Txt K mg) : mg "InvalidText" = some (.ref (ga K "InvalidText")) := T.x11.1.gC
theorem st12 : ExSt d_m_InvalidNumber_init.st "value" := exSt_of rfl rfl rfl rfl
theorem Txt.x12 (T : Txt K mg) : Ex4 K mg "InvalidNumber" "value" := ex4 T (d := d_m_InvalidNumber_init) (.tail _ (.tail _ (.tail _ (.tail _ (.tail _ (.tail _ (.tail _ (.tail _ (.tail _ (.tail _ (.tail _ (.tail _ (.head _))))))))))))) (.tail _ (.tail _ (.tail _ (.tail _ (.tail _ (.tail _ (.tail _ (.tail _ (.tail _ (.tail _ (.tail _ (.tail _ (.head _))))))))))))) rfl rfl rfl rfl st12 (.inl rfl)
theorem Txt.e12 (T : Txt K mg) : ExT K mg "InvalidNumber" "value" := T.x12.1
theorem Txt.gx12 (T : Txt K mg) : mg "InvalidNumber" = some (.ref (ga K "InvalidNumber")) := T.x12.1.gC
theorem st13 : ExSt d_m_UnknownName_init.st "value" := exSt_of rfl rfl rfl rfl
theorem Txt.x13 (T : Txt K mg) : Ex4 K mg "UnknownName" "value" := ex4 T (d := d_m_UnknownName_init) (.tail _ (.tail _ (.tail _ (.tail _ (.tail _ (.tail _ (.tail _ (.tail _ (.tail _ (.tail _ (.tail _ (.tail _ (.tail _ (.head _)))))))))))))) (.tail _ (.tail _ (.tail _ (.tail _ (.tail _ (.tail _ (.tail _ (.tail _ (.tail _ (.tail _ (.tail _ (.tail _ (.tail _ (.head _)))))))))))))) rfl rfl rfl rfl st13 (.inl rfl)
theorem Txt.e13 (T : Txt K mg) : ExT K mg "UnknownName" "value" := T.x13.1
theorem Txt.gx13 (T : Txt K mg) : mg "UnknownName" = some (.ref (ga K "UnknownName")) := T.x13.1.gC
theorem st14 : ExSt d_m_TakenName_init.st "value" := exSt_of rfl rfl rfl rfl
theorem Txt.x14 (T : Txt K mg) : Ex4 K mg "TakenName" "value" := ex4 T (d := d_m_TakenName_init) (.tail _ (.tail _ (.tail _ (.tail _ (.tail _ (.tail _ (.tail _ (.tail _ (.tail _ (.tail _ (.tail _ (.tail _ (.tail _ (.tail _ (.head _))))))))))))))) (.tail _ (.tail _ (.tail _ (.tail _ (.tail _ (.tail _ (.tail _ (.tail _ (.tail _ (.tail _ (.tail _ (.tail _ (.tail _ (.tail _ (.head _))))))))))))))) rfl rfl rfl rfl st14 (.inl rfl)
theorem Txt.e14 (T : Txt K mg) : ExT K mg "TakenName" "value" := T.x14.1
theorem Txt.gx14 (T : Txt K mg) : mg "TakenName" = some (.ref (ga K "TakenName")) := T.x14.1.gC
theorem st15 : ExSt d_m_NotPlain_init.st "value" := exSt_of rfl rfl rfl rfl
theorem Txt.x15 (T : Txt K mg) : Ex4 K mg "NotPlain" "value" := ex4 T (d := d_m_NotPlain_init) (.tail _ (.tail _ (.tail _ (.tail _ (.tail _ (.tail _ (.tail _ (.tail _ (.tail _ (.tail _ (.tail _ (.tail _ (.tail _ (.tail _ (.tail _ (.head _)))))))))))))))) (.tail _ (.tail _ (.tail _ (.tail _ (.tail _ (.tail _ (.tail _ (.tail _ (.tail _ (.tail _ (.tail _ (.tail _ (.tail _ (.tail _ (.tail _ (.head _)))))))))))))))) rfl rfl rfl rfl st15 (.inl rfl)
theorem Txt.e15 (T : Txt K mg) : ExT K mg "NotPlain" "value" := T.x15.1
theorem Txt.gx15 (T : Txt K mg) : mg "NotPlain" = some (.ref (ga K "NotPlain")) := T.x15.1.gC
theorem st16 : ExSt d_m_NotLayered_init.st "ring" := exSt_of rfl rfl rfl rfl
theorem Txt.x16 (T : Txt K mg) : Ex4 K mg "NotLayered" "ring" := ex4 T (d := d_m_NotLayered_init) (.tail _ (.tail _ (.tail _ (.tail _ (.tail _ (.tail _ (.tail _ (.tail _ (.tail _ (.tail _ (.tail _ (.tail _ (.tail _ (.tail _ (.tail _ (.tail _ (.head _))))))))))))))))) (.tail _ (.tail _ (.tail _ (.tail _ (.tail _ (.tail _ (.tail _ (.tail _ (.tail _ (.tail _ (.tail _ (.tail _ (.tail _ (.tail _ (.tail _ (.tail _ (.head _))))))))))))))))) rfl rfl rfl rfl st16 (.inr (.inl rfl))
theorem Txt.e16 (T : Txt K mg) : ExT K mg "NotLayered" "ring" := T.x16.1
theorem Txt.gx16 (T : Txt K mg) : mg "NotLayered" = some (.ref (ga K "NotLayered")) := T.x16.1.gC
theorem st17 : ExSt d_m_NotFiring_init.st "value" := exSt_of rfl rfl rfl rfl
theorem Txt.x17 (T : Txt K mg) : Ex4 K mg "NotFiring" "value" := ex4 T (d := d_m_NotFiring_init) (.tail _ (.tail _ (.tail _ (.tail _ (.tail _ (.tail _ (.tail _ (.tail _ (.tail _ (.tail _ (.tail _ (.tail _ (.tail _ (.tail _ (.tail _ (.tail _ (.tail _ (.head _)))))))))))))))))) (.tail _ (.tail _ (.tail _ (.tail _ (.tail _ (.tail _ (.tail _ (.tail _ (.tail _ (.tail _ (.tail _ (.tail _ (.tail _ (.tail _ (.tail _ (.tail _ (.tail _ (.head _)))))))))))))))))) rfl rfl rfl rfl st17 (.inl rfl)
theorem Txt.e17 (T : Txt K mg) : ExT K mg "NotFiring" "value" := T.x17.1
theorem Txt.gx17 (T : Txt K mg) : mg "NotFiring" = some (.ref (ga K "NotFiring")) := T.x17.1.gC
theorem st18 : ExSt d_m_TooMany_init.st "most" := exSt_of rfl rfl rfl rfl
theorem Txt.x18 (T : Txt K mg) : Ex4 K mg "TooMany" "most" := ex4 T (d := d_m_TooMany_init) (.tail _ (.tail _ (.tail _ (.tail _ (.tail _ (.tail _ (.tail _ (.tail _ (.tail _ (.tail _ (.tail _ (.tail _ (.tail _ (.tail _ (.tail _ (.tail _ (.tail _ (.tail _ (.head _))))))))))))))))))) (.tail _ (.tail _ (.tail _ (.tail _ (.tail _ (.tail _ (.tail _ (.tail _ (.tail _ (.tail _ (.tail _ (.tail _ (.tail _ (.tail _ (.tail _ (.tail _ (.tail _ (.tail _ (.head _))))))))))))))))))) rfl rfl rfl rfl st18 (.inr (.inr (.inl rfl)))
theorem Txt.e18 (T : Txt K mg) : ExT K mg "TooMany" "most" := T.x18.1
theorem Txt.gx18 (T : Txt K mg) : mg "TooMany" = some (.ref (ga K "TooMany")) := T.x18.1.gC
theorem st19 : ExSt d_m_InvalidGoal_init.st "value" := exSt_of rfl rfl rfl rfl
theorem Txt.x19 (T : Txt K mg) : Ex4 K mg "InvalidGoal" "value" := ex4 T (d := d_m_InvalidGoal_init) (.tail _ (.tail _ (.tail _ (.tail _ (.tail _ (.tail _ (.tail _ (.tail _ (.tail _ (.tail _ (.tail _ (.tail _ (.tail _ (.tail _ (.tail _ (.tail _ (.tail _ (.tail _ (.tail _ (.head _)))))))))))))))))))) (.tail _ (.tail _ (.tail _ (.tail _ (.tail _ (.tail _ (.tail _ (.tail _ (.tail _ (.tail _ (.tail _ (.tail _ (.tail _ (.tail _ (.tail _ (.tail _ (.tail _ (.tail _ (.tail _ (.head _)))))))))))))))))))) rfl rfl rfl rfl st19 (.inl rfl)
theorem Txt.e19 (T : Txt K mg) : ExT K mg "InvalidGoal" "value" := T.x19.1
theorem Txt.gx19 (T : Txt K mg) : mg "InvalidGoal" = some (.ref (ga K "InvalidGoal")) := T.x19.1.gC
theorem st20 : ExSt d_m_InvalidScript_init.st "value" := exSt_of rfl rfl rfl rfl
theorem Txt.x20 (T : Txt K mg) : Ex4 K mg "InvalidScript" "value" := ex4 T (d := d_m_InvalidScript_init) (.tail _ (.tail _ (.tail _ (.tail _ (.tail _ (.tail _ (.tail _ (.tail _ (.tail _ (.tail _ (.tail _ (.tail _ (.tail _ (.tail _ (.tail _ (.tail _ (.tail _ (.tail _ (.tail _ (.tail _ (.head _))))))))))))))))))))) (.tail _ (.tail _ (.tail _ (.tail _ (.tail _ (.tail _ (.tail _ (.tail _ (.tail _ (.tail _ (.tail _ (.tail _ (.tail _ (.tail _ (.tail _ (.tail _ (.tail _ (.tail _ (.tail _ (.tail _ (.head _))))))))))))))))))))) rfl rfl rfl rfl st20 (.inl rfl)
theorem Txt.e20 (T : Txt K mg) : ExT K mg "InvalidScript" "value" := T.x20.1
theorem Txt.gx20 (T : Txt K mg) : mg "InvalidScript" = some (.ref (ga K "InvalidScript")) := T.x20.1.gC
theorem st21 : ExSt d_m_InvalidEdition_init.st "value" := exSt_of rfl rfl rfl rfl
theorem Txt.x21 (T : Txt K mg) : Ex4 K mg "InvalidEdition" "value" := ex4 T (d := d_m_InvalidEdition_init) (.tail _ (.tail _ (.tail _ (.tail _ (.tail _ (.tail _ (.tail _ (.tail _ (.tail _ (.tail _ (.tail _ (.tail _ (.tail _ (.tail _ (.tail _ (.tail _ (.tail _ (.tail _ (.tail _ (.tail _ (.tail _ (.head _)))))))))))))))))))))) (.tail _ (.tail _ (.tail _ (.tail _ (.tail _ (.tail _ (.tail _ (.tail _ (.tail _ (.tail _ (.tail _ (.tail _ (.tail _ (.tail _ (.tail _ (.tail _ (.tail _ (.tail _ (.tail _ (.tail _ (.tail _ (.head _)))))))))))))))))))))) rfl rfl rfl rfl st21 (.inl rfl)
theorem Txt.e21 (T : Txt K mg) : ExT K mg "InvalidEdition" "value" := T.x21.1
theorem Txt.gx21 (T : Txt K mg) : mg "InvalidEdition" = some (.ref (ga K "InvalidEdition")) := T.x21.1.gC
theorem st22 : ExSt d_m_InvalidGuard_init.st "value" := exSt_of rfl rfl rfl rfl
theorem Txt.x22 (T : Txt K mg) : Ex4 K mg "InvalidGuard" "value" := ex4 T (d := d_m_InvalidGuard_init) (.tail _ (.tail _ (.tail _ (.tail _ (.tail _ (.tail _ (.tail _ (.tail _ (.tail _ (.tail _ (.tail _ (.tail _ (.tail _ (.tail _ (.tail _ (.tail _ (.tail _ (.tail _ (.tail _ (.tail _ (.tail _ (.tail _ (.head _))))))))))))))))))))))) (.tail _ (.tail _ (.tail _ (.tail _ (.tail _ (.tail _ (.tail _ (.tail _ (.tail _ (.tail _ (.tail _ (.tail _ (.tail _ (.tail _ (.tail _ (.tail _ (.tail _ (.tail _ (.tail _ (.tail _ (.tail _ (.tail _ (.head _))))))))))))))))))))))) rfl rfl rfl rfl st22 (.inl rfl)
theorem Txt.e22 (T : Txt K mg) : ExT K mg "InvalidGuard" "value" := T.x22.1
theorem Txt.gx22 (T : Txt K mg) : mg "InvalidGuard" = some (.ref (ga K "InvalidGuard")) := T.x22.1.gC
theorem st23 : ExSt d_m_InvalidDates_init.st "value" := exSt_of rfl rfl rfl rfl
theorem Txt.x23 (T : Txt K mg) : Ex4 K mg "InvalidDates" "value" := ex4 T (d := d_m_InvalidDates_init) (.tail _ (.tail _ (.tail _ (.tail _ (.tail _ (.tail _ (.tail _ (.tail _ (.tail _ (.tail _ (.tail _ (.tail _ (.tail _ (.tail _ (.tail _ (.tail _ (.tail _ (.tail _ (.tail _ (.tail _ (.tail _ (.tail _ (.tail _ (.head _)))))))))))))))))))))))) (.tail _ (.tail _ (.tail _ (.tail _ (.tail _ (.tail _ (.tail _ (.tail _ (.tail _ (.tail _ (.tail _ (.tail _ (.tail _ (.tail _ (.tail _ (.tail _ (.tail _ (.tail _ (.tail _ (.tail _ (.tail _ (.tail _ (.tail _ (.head _)))))))))))))))))))))))) rfl rfl rfl rfl st23 (.inl rfl)
theorem Txt.e23 (T : Txt K mg) : ExT K mg "InvalidDates" "value" := T.x23.1
theorem Txt.gx23 (T : Txt K mg) : mg "InvalidDates" = some (.ref (ga K "InvalidDates")) := T.x23.1.gC
theorem st24 : ExSt d_m_InvalidChances_init.st "value" := exSt_of rfl rfl rfl rfl
theorem Txt.x24 (T : Txt K mg) : Ex4 K mg "InvalidChances" "value" := ex4 T (d := d_m_InvalidChances_init) (.tail _ (.tail _ (.tail _ (.tail _ (.tail _ (.tail _ (.tail _ (.tail _ (.tail _ (.tail _ (.tail _ (.tail _ (.tail _ (.tail _ (.tail _ (.tail _ (.tail _ (.tail _ (.tail _ (.tail _ (.tail _ (.tail _ (.tail _ (.tail _ (.head _))))))))))))))))))))))))) (.tail _ (.tail _ (.tail _ (.tail _ (.tail _ (.tail _ (.tail _ (.tail _ (.tail _ (.tail _ (.tail _ (.tail _ (.tail _ (.tail _ (.tail _ (.tail _ (.tail _ (.tail _ (.tail _ (.tail _ (.tail _ (.tail _ (.tail _ (.tail _ (.head _))))))))))))))))))))))))) rfl rfl rfl rfl st24 (.inl rfl)
theorem Txt.e24 (T : Txt K mg) : ExT K mg "InvalidChances" "value" := T.x24.1
theorem Txt.gx24 (T : Txt K mg) : mg "InvalidChances" = some (.ref (ga K "InvalidChances")) := T.x24.1.gC
theorem st25 : ExSt d_m_NotMeeting_init.st "conflicts" := exSt_of rfl rfl rfl rfl
theorem Txt.x25 (T : Txt K mg) : Ex4 K mg "NotMeeting" "conflicts" := ex4 T (d := d_m_NotMeeting_init) (.tail _ (.tail _ (.tail _ (.tail _ (.tail _ (.tail _ (.tail _ (.tail _ (.tail _ (.tail _ (.tail _ (.tail _ (.tail _ (.tail _ (.tail _ (.tail _ (.tail _ (.tail _ (.tail _ (.tail _ (.tail _ (.tail _ (.tail _ (.tail _ (.tail _ (.head _)))))))))))))))))))))))))) (.tail _ (.tail _ (.tail _ (.tail _ (.tail _ (.tail _ (.tail _ (.tail _ (.tail _ (.tail _ (.tail _ (.tail _ (.tail _ (.tail _ (.tail _ (.tail _ (.tail _ (.tail _ (.tail _ (.tail _ (.tail _ (.tail _ (.tail _ (.tail _ (.tail _ (.head _)))))))))))))))))))))))))) rfl rfl rfl rfl st25 (.inr (.inr (.inr rfl)))
theorem Txt.e25 (T : Txt K mg) : ExT K mg "NotMeeting" "conflicts" := T.x25.1
theorem Txt.gx25 (T : Txt K mg) : mg "NotMeeting" = some (.ref (ga K "NotMeeting")) := T.x25.1.gC
theorem st26 : ExSt d_m_Unsound_init.st "value" := exSt_of rfl rfl rfl rfl
theorem Txt.x26 (T : Txt K mg) : Ex4 K mg "Unsound" "value" := ex4 T (d := d_m_Unsound_init) (.tail _ (.tail _ (.tail _ (.tail _ (.tail _ (.tail _ (.tail _ (.tail _ (.tail _ (.tail _ (.tail _ (.tail _ (.tail _ (.tail _ (.tail _ (.tail _ (.tail _ (.tail _ (.tail _ (.tail _ (.tail _ (.tail _ (.tail _ (.tail _ (.tail _ (.tail _ (.head _))))))))))))))))))))))))))) (.tail _ (.tail _ (.tail _ (.tail _ (.tail _ (.tail _ (.tail _ (.tail _ (.tail _ (.tail _ (.tail _ (.tail _ (.tail _ (.tail _ (.tail _ (.tail _ (.tail _ (.tail _ (.tail _ (.tail _ (.tail _ (.tail _ (.tail _ (.tail _ (.tail _ (.tail _ (.head _))))))))))))))))))))))))))) rfl rfl rfl rfl st26 (.inl rfl)
theorem Txt.e26 (T : Txt K mg) : ExT K mg "Unsound" "value" := T.x26.1
theorem Txt.gx26 (T : Txt K mg) : mg "Unsound" = some (.ref (ga K "Unsound")) := T.x26.1.gC
theorem Txt.b0 (T : Txt K mg) : ExB K mg "NeverError" (ga K "NeverError") := (eb2 T (.head _)).1
theorem Txt.gb0 (T : Txt K mg) : mg "NeverError" = some (.ref (ga K "NeverError")) := T.b0.gC
theorem Txt.b1 (T : Txt K mg) : ExB K mg "NothingToUndo" (ga K "NothingToUndo") := (eb2 T (.tail _ (.head _))).1
theorem Txt.gb1 (T : Txt K mg) : mg "NothingToUndo" = some (.ref (ga K "NothingToUndo")) := T.b1.gC
theorem Txt.b2 (T : Txt K mg) : ExB K mg "NothingToRedo" (ga K "NothingToRedo") := (eb2 T (.tail _ (.tail _ (.head _)))).1
theorem Txt.gb2 (T : Txt K mg) : mg "NothingToRedo" = some (.ref (ga K "NothingToRedo")) := T.b2.gC
theorem Txt.gl0 (T : Txt K mg) : mg "_law_made" = some (.ref (ga K "_law_made")) := T.cg (.head _)
theorem Txt.gl1 (T : Txt K mg) : mg "_law_classes" = some (.ref (ga K "_law_classes")) := T.cg (.tail _ (.head _))
theorem Txt.gl2 (T : Txt K mg) : mg "_law_placed" = some (.ref (ga K "_law_placed")) := T.cg (.tail _ (.tail _ (.head _)))
theorem Txt.gl3 (T : Txt K mg) : mg "_law_thing" = some (.ref (ga K "_law_thing")) := T.cg (.tail _ (.tail _ (.tail _ (.head _))))
theorem Txt.gl4 (T : Txt K mg) : mg "_law_by_name" = some (.ref (ga K "_law_by_name")) := T.cg (.tail _ (.tail _ (.tail _ (.tail _ (.head _)))))
theorem Txt.gl5 (T : Txt K mg) : mg "_law_bare" = some (.ref (ga K "_law_bare")) := T.cg (.tail _ (.tail _ (.tail _ (.tail _ (.tail _ (.head _))))))
theorem Txt.gl6 (T : Txt K mg) : mg "_law_fields" = some (.ref (ga K "_law_fields")) := T.cg (.tail _ (.tail _ (.tail _ (.tail _ (.tail _ (.tail _ (.head _)))))))
theorem Txt.gl7 (T : Txt K mg) : mg "law" = some (.ref (ga K "law")) := T.cg (.tail _ (.tail _ (.tail _ (.tail _ (.tail _ (.tail _ (.tail _ (.head _))))))))
theorem Txt.fr0 (T : Txt K mg) : mg "isinstance" = none := T.cf (.head _)
theorem Txt.fr1 (T : Txt K mg) : mg "enumerate" = none := T.cf (.tail _ (.head _))
theorem Txt.fr2 (T : Txt K mg) : mg "range" = none := T.cf (.tail _ (.tail _ (.head _)))
theorem Txt.fr3 (T : Txt K mg) : mg "len" = none := T.cf (.tail _ (.tail _ (.tail _ (.head _))))
theorem Txt.fr4 (T : Txt K mg) : mg "max" = none := T.cf (.tail _ (.tail _ (.tail _ (.tail _ (.head _)))))
theorem Txt.fr5 (T : Txt K mg) : mg "sum" = none := T.cf (.tail _ (.tail _ (.tail _ (.tail _ (.tail _ (.head _))))))
theorem Txt.fr6 (T : Txt K mg) : mg "repr" = none := T.cf (.tail _ (.tail _ (.tail _ (.tail _ (.tail _ (.tail _ (.head _)))))))
theorem Txt.fr7 (T : Txt K mg) : mg "int" = none := T.cf (.tail _ (.tail _ (.tail _ (.tail _ (.tail _ (.tail _ (.tail _ (.head _))))))))
theorem Txt.fr8 (T : Txt K mg) : mg "ValueError" = none := T.cf (.tail _ (.tail _ (.tail _ (.tail _ (.tail _ (.tail _ (.tail _ (.tail _ (.head _)))))))))
theorem Txt.fr9 (T : Txt K mg) : mg "list" = none := T.cf (.tail _ (.tail _ (.tail _ (.tail _ (.tail _ (.tail _ (.tail _ (.tail _ (.tail _ (.head _))))))))))
abbrev Fd_law_made (K : PySem.W.Frag) (fd : FuncData) : Prop := FunD K "_law_made" "_law_made" (defArgs d_g_law_made.st) (defBody d_g_law_made.st) (defScope d_g_law_made.st) [] [] (ga K "_law_made") fd
theorem Txt.f_law_made (T : Txt K mg) : ∃ fd, Fd_law_made K fd := T.c.funD (d := d_g_law_made) (.tail _ (.tail _ (.tail _ (.tail _ (.tail _ (.tail _ (.tail _ (.tail _ (.tail _ (.tail _ (.tail _ (.tail _ (.tail _ (.tail _ (.tail _ (.tail _ (.tail _ (.tail _ (.tail _ (.tail _ (.tail _ (.tail _ (.tail _ (.tail _ (.tail _ (.tail _ (.tail _ (.head _)))))))))))))))))))))))))))) rfl
abbrev Fd_law_classes (K : PySem.W.Frag) (fd : FuncData) : Prop := FunD K "_law_classes" "_law_classes" (defArgs d_g_law_classes.st) (defBody d_g_law_classes.st) (defScope d_g_law_classes.st) [] [] (ga K "_law_classes") fd
theorem Txt.f_law_classes (T : Txt K mg) : ∃ fd, Fd_law_classes K fd := T.c.funD (d := d_g_law_classes) (.tail _ (.tail _ (.tail _ (.tail _ (.tail _ (.tail _ (.tail _ (.tail _ (.tail _ (.tail _ (.tail _ (.tail _ (.tail _ (.tail _ (.tail _ (.tail _ (.tail _ (.tail _ (.tail _ (.tail _ (.tail _ (.tail _ (.tail _ (.tail _ (.tail _ (.tail _ (.tail _ (.tail _ (.head _))))))))))))))))))))))))))))) rfl
abbrev Fd_law_placed (K : PySem.W.Frag) (fd : FuncData) : Prop := FunD K "_law_placed" "_law_placed" (defArgs d_g_law_placed.st) (defBody d_g_law_placed.st) (defScope d_g_law_placed.st) [] [] (ga K "_law_placed") fd
theorem Txt.f_law_placed (T : Txt K mg) : ∃ fd, Fd_law_placed K fd := T.c.funD (d := d_g_law_placed) (.tail _ (.tail _ (.tail _ (.tail _ (.tail _ (.tail _ (.tail _ (.tail _ (.tail _ (.tail _ (.tail _ (.tail _ (.tail _ (.tail _ (.tail _ (.tail _ (.tail _ (.tail _ (.tail _ (.tail _ (.tail _ (.tail _ (.tail _ (.tail _ (.tail _ (.tail _ (.tail _ (.tail _ (.tail _ (.head _)))))))))))))))))))))))))))))) rfl
abbrev Fd_law_thing (K : PySem.W.Frag) (fd : FuncData) : Prop := FunD K "_law_thing" "_law_thing" (defArgs d_g_law_thing.st) (defBody d_g_law_thing.st) (defScope d_g_law_thing.st) [] [] (ga K "_law_thing") fd
theorem Txt.f_law_thing (T : Txt K mg) : ∃ fd, Fd_law_thing K fd := T.c.funD (d := d_g_law_thing) (.tail _ (.tail _ (.tail _ (.tail _ (.tail _ (.tail _ (.tail _ (.tail _ (.tail _ (.tail _ (.tail _ (.tail _ (.tail _ (.tail _ (.tail _ (.tail _ (.tail _ (.tail _ (.tail _ (.tail _ (.tail _ (.tail _ (.tail _ (.tail _ (.tail _ (.tail _ (.tail _ (.tail _ (.tail _ (.tail _ (.head _))))))))))))))))))))))))))))))) rfl
abbrev Fd_law_by_name (K : PySem.W.Frag) (fd : FuncData) : Prop := FunD K "_law_by_name" "_law_by_name" (defArgs d_g_law_by_name.st) (defBody d_g_law_by_name.st) (defScope d_g_law_by_name.st) [] [] (ga K "_law_by_name") fd
theorem Txt.f_law_by_name (T : Txt K mg) : ∃ fd, Fd_law_by_name K fd := T.c.funD (d := d_g_law_by_name) (.tail _ (.tail _ (.tail _ (.tail _ (.tail _ (.tail _ (.tail _ (.tail _ (.tail _ (.tail _ (.tail _ (.tail _ (.tail _ (.tail _ (.tail _ (.tail _ (.tail _ (.tail _ (.tail _ (.tail _ (.tail _ (.tail _ (.tail _ (.tail _ (.tail _ (.tail _ (.tail _ (.tail _ (.tail _ (.tail _ (.tail _ (.head _)))))))))))))))))))))))))))))))) rfl
abbrev Fd_law_bare (K : PySem.W.Frag) (fd : FuncData) : Prop := FunD K "_law_bare" "_law_bare" (defArgs d_g_law_bare.st) (defBody d_g_law_bare.st) (defScope d_g_law_bare.st) [] [] (ga K "_law_bare") fd
theorem Txt.f_law_bare (T : Txt K mg) : ∃ fd, Fd_law_bare K fd := T.c.funD (d := d_g_law_bare) (.tail _ (.tail _ (.tail _ (.tail _ (.tail _ (.tail _ (.tail _ (.tail _ (.tail _ (.tail _ (.tail _ (.tail _ (.tail _ (.tail _ (.tail _ (.tail _ (.tail _ (.tail _ (.tail _ (.tail _ (.tail _ (.tail _ (.tail _ (.tail _ (.tail _ (.tail _ (.tail _ (.tail _ (.tail _ (.tail _ (.tail _ (.tail _ (.head _))))))))))))))))))))))))))))))))) rfl
abbrev Fd_law_fields (K : PySem.W.Frag) (fd : FuncData) : Prop := FunD K "_law_fields" "_law_fields" (defArgs d_g_law_fields.st) (defBody d_g_law_fields.st) (defScope d_g_law_fields.st) [] [] (ga K "_law_fields") fd
theorem Txt.f_law_fields (T : Txt K mg) : ∃ fd, Fd_law_fields K fd := T.c.funD (d := d_g_law_fields) (.tail _ (.tail _ (.tail _ (.tail _ (.tail _ (.tail _ (.tail _ (.tail _ (.tail _ (.tail _ (.tail _ (.tail _ (.tail _ (.tail _ (.tail _ (.tail _ (.tail _ (.tail _ (.tail _ (.tail _ (.tail _ (.tail _ (.tail _ (.tail _ (.tail _ (.tail _ (.tail _ (.tail _ (.tail _ (.tail _ (.tail _ (.tail _ (.tail _ (.head _)))))))))))))))))))))))))))))))))) rfl
abbrev Fdlaw (K : PySem.W.Frag) (fd : FuncData) : Prop := FunD K "law" "law" (defArgs d_g_law.st) (defBody d_g_law.st) (defScope d_g_law.st) [] [] (ga K "law") fd
theorem Txt.flaw (T : Txt K mg) : ∃ fd, Fdlaw K fd := T.c.funD (d := d_g_law) (.tail _ (.tail _ (.tail _ (.tail _ (.tail _ (.tail _ (.tail _ (.tail _ (.tail _ (.tail _ (.tail _ (.tail _ (.tail _ (.tail _ (.tail _ (.tail _ (.tail _ (.tail _ (.tail _ (.tail _ (.tail _ (.tail _ (.tail _ (.tail _ (.tail _ (.tail _ (.tail _ (.tail _ (.tail _ (.tail _ (.tail _ (.tail _ (.tail _ (.tail _ (.head _))))))))))))))))))))))))))))))))))) rfl
theorem Txt.ei (T : Txt K mg) {a : PySem.Str} (h : a ∈ cls29) : ExI K (ga K a) := by
  simp only [cls29, List.mem_cons, List.mem_nil_iff, or_false] at h
  rcases h with rfl | rfl | rfl | rfl | rfl | rfl | rfl | rfl | rfl | rfl | rfl | rfl | rfl | rfl | rfl | rfl | rfl | rfl | rfl | rfl | rfl | rfl | rfl | rfl | rfl | rfl | rfl | rfl | rfl
  · exact T.x0.2.1
  · exact T.x1.2.1
  · exact T.x2.2.1
  · exact T.x3.2.1
  · exact T.x4.2.1
  · exact T.x5.2.1
  · exact T.x19.2.1
  · exact T.x20.2.1
  · exact T.x21.2.1
  · exact T.x22.2.1
  · exact T.x23.2.1
  · exact T.x24.2.1
  · exact T.x6.2.1
  · exact T.x7.2.1
  · exact T.x8.2.1
  · exact T.x9.2.1
  · exact T.x10.2.1
  · exact T.x11.2.1
  · exact T.x12.2.1
  · exact T.x13.2.1
  · exact T.x14.2.1
  · exact T.x15.2.1
  · exact T.x17.2.1
  · exact T.x26.2.1
  · exact T.x16.2.1
  · exact T.x18.2.1
  · exact T.x25.2.1
  · exact (eb2 T (.tail _ (.head _))).2
  · exact (eb2 T (.tail _ (.tail _ (.head _)))).2
theorem Txt.eiN (T : Txt K mg) : ExI K (ga K "NeverError") := (eb2 T (.head _)).2
end
end K01

set_option Elab.async false
set_option linter.all false
set_option maxRecDepth 100000
set_option maxHeartbeats 0
namespace K01
open PySem PySem.Spec PyProof.Rows L2 NE He Evl
/-! errors among the values -/
def IsX (H : Hp) (v : V) (C : Addr) : Prop := ∃ e, v = .ref e ∧ ((∃ d fs, H e = some (EH C d e) ∧ H d = some (.xd fs)) ∨ H e = some (EB C e))
def IsE (H : Hp) (v : V) (C : Addr) (f : PySem.Str) (u : V) : Prop := ∃ e d, v = .ref e ∧ H e = some (EH C d e) ∧ H d = some (.xd [(f, u)])
theorem IsX.mono {H H' : Hp} {v : V} {C : Addr} (e : Ex H H') (h : IsX H v C) : IsX H' v C := by
  obtain ⟨a, rfl, h⟩ := h
  rcases h with ⟨d, fs, h1, h2⟩ | h
  · exact ⟨a, rfl, .inl ⟨d, fs, e _ _ h1, e _ _ h2⟩⟩
  · exact ⟨a, rfl, .inr (e _ _ h)⟩
theorem IsE.mono {H H' : Hp} {v u : V} {C : Addr} {f : PySem.Str} (e : Ex H H') (h : IsE H v C f u) : IsE H' v C f u := by
  obtain ⟨a, d, rfl, h1, h2⟩ := h
  exact ⟨a, d, rfl, e _ _ h1, e _ _ h2⟩
theorem IsE.isX {H : Hp} {v u : V} {C : Addr} {f : PySem.Str} (h : IsE H v C f u) : IsX H v C := by
  obtain ⟨a, d, rfl, h1, h2⟩ := h
  exact ⟨a, rfl, .inl ⟨d, _, h1, h2⟩⟩
def EvE (te : TE) (σ : L2.St) (H : Hp) (c : Addr × PySem.Str) (u : V) : Prop := ∀ H1, Ex H H1 → ∀ Q : VK, (∀ v H2, Ex H1 H2 → IsE H2 v c.1 c.2 u → Q v H2) → te σ H1 Q
abbrev Ers (H : Hp) (u : V) : List (Addr × PySem.Str) → List V → Prop := Paired fun c v => IsE H v c.1 c.2 u
theorem Ers.mono {H H' : Hp} {u : V} {cs : List (Addr × PySem.Str)} {vs : List V} (e : Ex H H') (h : Ers H u cs vs) : Ers H' u cs vs := Paired.mapP h fun _ _ z => z.mono e
def EvEA (ta : TA) (σ : L2.St) (H : Hp) (cs : List (Addr × PySem.Str)) (u : V) : Prop := ∀ H1, Ex H H1 → ∀ Q : List V → Hp → Prop, (∀ vs H2, Ex H1 H2 → Ers H2 u cs vs → Q vs H2) → ta σ H1 Q
def EvX (te : TE) (σ : L2.St) (H : Hp) (C : Addr) : Prop := ∀ H1, Ex H H1 → ∀ Q : VK, (∀ v H2, Ex H1 H2 → IsX H2 v C → Q v H2) → te σ H1 Q
section
variable {K : PySem.W.Frag} {σ : L2.St} {H : Hp} {te : TE} {ta tr : TA} {u v : V} {C : Addr} {f : PySem.Str} {D : Ends}
theorem kErr_ok {H1 : Hp} {Q : VK} (q : ∀ v H2, Ex H1 H2 → IsE H2 v C f u → Q v H2) : kErr C f u H1 Q := fun e d he hd ne => by
  have x1 : Ex H1 (upd H1 d (.xd [(f, u)])) := Ex.new hd
  have n1 : upd H1 d (.xd [(f, u)]) e = none := by
    rw [upd_ne (Ne.symm ne)]
    exact he
  refine q _ _ (x1.trans (Ex.new n1)) ⟨e, d, rfl, upd_same, ?_⟩
  rw [upd_ne ne]
  exact upd_same
theorem ev_err (h : σ[0]? = some (some u)) : EvE (tErr C f (tCons (tVar 0) tNil)) σ H (C, f) u := fun H1 e Q q => ⟨u, h, ⟨u, rfl, kErr_ok q⟩⟩
theorem ev_err0 : EvE (tErr0 C f) σ H (C, f) .non := fun H1 e Q q => kErr_ok q
theorem ev_errB : EvX (tErrB C) σ H C := fun H1 e Q q a ha => q _ _ (Ex.new ha) ⟨a, rfl, .inr upd_same⟩
theorem eae_nil : EvEA tNil σ H [] u := fun H1 _ Q q => q [] H1 (Ex.refl H1) .nil
theorem eae_cons {c : Addr × PySem.Str} {cs : List (Addr × PySem.Str)} (h : EvE te σ H c u) (hr : EvEA tr σ H cs u) : EvEA (tCons te tr) σ H (c :: cs) u := fun H1 e Q q =>
  h H1 e _ fun v H2 e2 i2 => hr H2 (e.trans e2) _ fun vs H3 e3 i3 => q _ H3 (e2.trans e3) (.cons (i2.mono e3) i3)
theorem s_first {i : Nat} {cs : List (Addr × PySem.Str)} (h : EvEA ta σ H cs u) (hl : cs.length ≤ 1000)
    (k : ∀ p H1 vs, H p = none → Ex H H1 → H1 p = some (.lst vs) → Ers H1 u cs vs → D.nx (σ.set i (some (.ref p))) H1) : tAsg (tLst ta) (gName i) D σ H :=
  h H (Ex.refl H) _ fun vs H1 e ii => ⟨sz_of (by have z := Paired.length ii; omega), fun p hp => k p _ vs (fresh_back e hp) (e.trans (Ex.new hp)) upd_same (Ers.mono (Ex.new hp) ii)⟩
theorem Paired.app {α β : Type} {F : α → β → Prop} : ∀ {a c : List α} {b d : List β}, Paired F a b → Paired F c d → Paired F (a ++ c) (b ++ d)
  | _, _, _, _, .nil, h => h
  | _, _, _, _, .cons r t, h => .cons r (Paired.app t h)
theorem s_more {i : Nat} {cs0 cs : List (Addr × PySem.Str)} {p0 : Addr} {vs0 : List V} (hσ : σ[i]? = some (some (.ref p0))) (h0 : H p0 = some (.lst vs0)) (i0 : Ers H u cs0 vs0) (h : EvEA ta σ H cs u) (hl : cs0.length + cs.length ≤ 1000)
    (k : ∀ p H1 vs, H p = none → Ex H H1 → H1 p = some (.lst vs) → Ers H1 u (cs0 ++ cs) vs → D.nx (σ.set i (some (.ref p))) H1) : tAsg (tOp (U.rAdd K) (tVar i) (tLst ta)) (gName i) D σ H := by
  refine ⟨_, hσ, h H (Ex.refl H) _ fun vs H1 e ii => ?_⟩
  have l0 := Paired.length i0
  have l1 := Paired.length ii
  refine ⟨sz_of (by omega), fun p hp => .inr (.inl ⟨p0, p, vs0, vs, rfl, rfl, ?_, upd_same, sz_of (by omega), fun q hq => ?_⟩)⟩
  · exact (e.trans (Ex.new hp)) _ _ h0
  · have e2 : Ex H (upd (upd H1 p (.lst vs)) q (.lst (vs0 ++ vs))) := (e.trans (Ex.new hp)).trans (Ex.new hq)
    refine k q _ (vs0 ++ vs) (fresh_back (e.trans (Ex.new hp)) hq) e2 upd_same (Paired.app (Ers.mono e2 i0) (Ers.mono ((Ex.new hp).trans (Ex.new hq)) ii))
theorem el_add {xs ys : List V} {p0 : Addr} {tb : TE} (hσ : σ[1]? = some (some (.ref p0))) (h0 : H p0 = some (.lst xs)) (hb : EvL tb σ H ys) (hz : xs.length + ys.length ≤ 1000) : EvL (tOp (U.rAdd K) (tVar 1) tb) σ H (xs ++ ys) := fun H1 e Q q =>
  ⟨_, hσ, hb H1 e _ fun p H2 hp e2 h2 => .inr (.inl ⟨p0, p, xs, ys, rfl, rfl, (e.trans e2) _ _ h0, h2, sz_of (by omega), fun r hr => q r _ (fresh_back e2 hr) (e2.trans (Ex.new hr)) upd_same⟩)⟩
theorem ev_isi {b : Bool} {c : V} {cv : Value} {tx : TE} (hv : Ev tx σ H v) (hx : IsX H v C) (ei : ExI K C) (hk : PySem.W.kitOne K (.ref C) cv = some b) (hc : ClsV c cv) : Ev (tCB (U.rIsU K) (tCons tx (tCons (tC c) tNil))) σ H (.bl b) := fun H1 e Q q =>
  hv H1 e _ fun H2 e2 => by
    obtain ⟨a, rfl, h⟩ := IsX.mono (e.trans e2) hx
    exact .inl ⟨a, C, c, cv, b, rfl, h, ei, hc, hk, q H2 e2⟩
end
/-! the promises -/
def ord27 : List (PySem.Str × PySem.Str) := [("InvalidFact", "value"), ("InvalidStore", "value"), ("InvalidRule", "value"), ("InvalidBook", "value"), ("InvalidQuestion", "value"), ("InvalidDeed", "value"), ("InvalidGoal", "value"), ("InvalidScript", "value"), ("InvalidEdition", "value"), ("InvalidGuard", "value"), ("InvalidDates", "value"), ("InvalidChances", "value"), ("InvalidLot", "value"), ("InvalidNames", "value"), ("InvalidLayers", "value"), ("InvalidName", "value"), ("InvalidLog", "value"), ("InvalidText", "value"), ("InvalidNumber", "value"), ("UnknownName", "value"), ("TakenName", "value"), ("NotPlain", "value"), ("NotFiring", "value"), ("Unsound", "value"), ("NotLayered", "ring"), ("TooMany", "most"), ("NotMeeting", "conflicts")]
def cf (K : PySem.W.Frag) : List (Addr × PySem.Str) := ord27.map fun p => (ga K p.1, p.2)
def spErs (K : PySem.W.Frag) : Sp := fun vs H Q _ => ∃ u, vs = [u] ∧ ∀ p H' es, H p = none → Ex H H' → H' p = some (.lst es) → Ers H' u (cf K) es → Q (.ref p) H'
def spBare (K : PySem.W.Frag) : Sp := fun vs H Q _ => vs = [] ∧ ∀ p H' es, H p = none → Ex H H' → H' p = some (.lst es) → Ers H' .non (cf K) es → Q (.ref p) H'
def all30 : List PySem.Str := "NeverError" :: cls29
def bits (a : PySem.Str) : List V := cls29.map fun c => .bl (decide (a = c))
def spClasses (K : PySem.W.Frag) : Sp := fun vs H Q _ => ∃ v a, vs = [v] ∧ a ∈ all30 ∧ IsX H v (ga K a) ∧ ∀ p H', H p = none → Ex H H' → H' p = some (.lst (bits a)) → Q (.ref p) H'
def spPlaced (K : PySem.W.Frag) : Sp := fun vs H Q _ => ∃ l es, vs = [.ref l] ∧ H l = some (.lst es) ∧ Paired (fun a v => IsX H v (ga K a)) cls29 es ∧ ∀ H', Ex H H' → Q (.bl true) H'
theorem Paired.at {α β : Type} {F : α → β → Prop} : ∀ {a : List α} {b : List β} {i : Nat} {y : β}, Paired F a b → b[i]? = some y → ∃ x, a[i]? = some x ∧ F x y
  | _, _, _, _, .nil, e => by simp at e
  | _, _, 0, _, .cons r _, e => by simp at e; subst e; exact ⟨_, rfl, r⟩
  | _, _, i + 1, y, .cons _ t, e => by
    obtain ⟨x, h1, h2⟩ := Paired.at (i := i) (y := y) t (by simpa using e)
    exact ⟨x, by simpa using h1, h2⟩
theorem bits_at : ∀ i : Fin 29, ∀ a, cls29[i.val]? = some a → bits a = given 29 (fun _ => true) fun j => .bl (decide (V.int (j : Int) = V.int ((i.val : Nat) : Int))) := by
  have h : ∀ i : Fin 29, (cls29[i.val]?).map bits = some (given 29 (fun _ => true) fun j => .bl (decide (V.int (j : Int) = V.int ((i.val : Nat) : Int)))) := by decide +kernel
  intro i a e
  have z := h i
  rw [e] at z
  exact Option.some.inj z
def datB : List V → List PyData := List.map fun v => match v with
  | .bl b => .bool b
  | _ => .none
theorem dp_bools {K : PySem.W.Frag} {H : Hp} {α : Type} (f : α → Bool) : ∀ l : List α, DpAll K H (l.map fun c => .bl (f c)) (l.map fun c => .bool (f c))
  | [] => .nil
  | a :: l => .cons (.bl _) (dp_bools f l)
theorem lay_bools {α : Type} (f : α → Bool) : ∀ l : List α, PyData.canLayAll0 (l.map fun c => .bool (f c)) = true
  | [] => rfl
  | a :: l => by
    rw [List.map_cons, PyData.canLayAll0, PyData.canLay0, lay_bools f l]
    rfl
theorem deep_bools {α : Type} (f : α → Bool) : ∀ l : List α, PyData.depthAll (l.map fun c => .bool (f c)) ≤ 1
  | [] => by simp [PyData.depthAll]
  | a :: l => by
    have h := deep_bools f l
    rw [List.map_cons]
    simp only [PyData.depthAll, PyData.depth]
    omega
theorem shaped_bools {α : Type} (f : α → Bool) (l : List α) : SeqAt.shaped (.list (l.map fun c => .bool (f c))) = true := by
  unfold SeqAt.shaped
  have h1 := lay_bools f l
  have h2 := deep_bools f l
  simp only [PyData.canLay0, h1, PyData.depth, Bool.true_and]
  exact decide_eq_true (by omega)
/-- two lists of the same bools are not unlike -/
theorem rv_neB {K : PySem.W.Frag} {H : Hp} {p q : Addr} {α : Type} {f : α → Bool} {l : List α} (hp : H p = some (.lst (l.map fun c => .bl (f c)))) (hq : H q = some (.lst (l.map fun c => .bl (f c)))) : RV (U.rNeU K) (.ref p) (.ref q) H (.bl false) := fun H1 e Q k => by
  have h := SeqAt.eqv_refl (.list (l.map fun c => .bool (f c))) (SeqAt.canLay_of_shaped (shaped_bools f l))
  refine .inr ⟨_, _, .lst (sq_of (e _ _ hp)) (dp_bools f l), .lst (sq_of (e _ _ hq)) (dp_bools f l), shaped_bools f l, shaped_bools f l, ?_⟩
  rw [h]
  exact k H1 (Ex.refl H1)
section
variable {w : World} {K : PySem.W.Frag} {mg : PySem.Str → Option Value} {base : Heap}
theorem kit30 (T : Txt K mg) {a c : PySem.Str} (ha : a ∈ all30) (hc : c ∈ cls29) : PySem.W.kitOne K (.ref (ga K a)) (.ref (ga K c)) = some (decide (a = c)) := by
  rcases List.mem_cons.mp ha with rfl | ha
  · rw [T.kit0 hc]
    have n : ¬ (("NeverError" : PySem.Str) = c) := fun e => absurd (e ▸ hc) (by decide +kernel)
    rw [decide_eq_false n]
  · exact T.kit ha hc
theorem ei30 (T : Txt K mg) {a : PySem.Str} (ha : a ∈ all30) : ExI K (ga K a) := by
  rcases List.mem_cons.mp ha with rfl | ha
  · exact T.eiN
  · exact T.ei ha
abbrev N_law_made : List PySem.Str := ["_law_thing_here", "_law_found"]
abbrev N_law_placed : List PySem.Str := ["_law_errors", "_law_at", "_law_error", "_law_spot"]
theorem sc_law_placed : FnScope N_law_placed ["_law_errors"] (defScope d_g_law_placed.st) := ⟨rfl, rfl, rfl, by decide +kernel, rfl, by decide +kernel, by decide +kernel⟩
abbrev N_law_bare : List PySem.Str := ["_law_found"]
abbrev N_law_classes : List PySem.Str := ["_law_error", "_law_found"]
theorem sc_law_made : FnScope N_law_made ["_law_thing_here"] (defScope d_g_law_made.st) := ⟨rfl, rfl, rfl, by decide +kernel, rfl, by decide +kernel, by decide +kernel⟩
theorem sc_law_by_name : FnScope N_law_made ["_law_thing_here"] (defScope d_g_law_by_name.st) := ⟨rfl, rfl, rfl, by decide +kernel, rfl, by decide +kernel, by decide +kernel⟩
theorem sc_law_bare : FnScope N_law_bare [] (defScope d_g_law_bare.st) := ⟨rfl, rfl, rfl, by decide +kernel, rfl, by decide +kernel, by decide +kernel⟩
theorem sc_law_classes : FnScope N_law_classes ["_law_error"] (defScope d_g_law_classes.st) := ⟨rfl, rfl, rfl, by decide +kernel, rfl, by decide +kernel, by decide +kernel⟩
theorem ok_law_made (T : Txt K mg) {fd : FuncData} (F : Fd_law_made K fd) : FnOk PP w K mg base CX0 4 (ga K "_law_made") fd ["_law_thing_here"] (spErs K) := by
  refine F.ok sc_law_made (fun vs H Q E h => ?_) ?_
  · obtain ⟨u, rfl, _⟩ := h
    rfl
  intro cdv A outer s H vs Q E hr h
  have hu : (A.deeper (envOfC "_law_made" (defScope d_g_law_made.st) s.heap.objs.size (ga K "_law_made") cdv)).units + 64 < cLine := by have := hr.un; omega
  have hv : (A.deeper (envOfC "_law_made" (defScope d_g_law_made.st) s.heap.objs.size (ga K "_law_made") cdv)).units + 65 < cLine := by have := hr.un; omega
  refine ⟨_, PSs.nox (pss_cons (ps_set (i := 1) sc_law_made.nd rfl (by first | exact Or.inl rfl | exact Or.inr rfl) (pe_lst (pa_cons (NE.pe_err T.e0 hr (pa_cons (pv 0) pa_nil)) (pa_cons (NE.pe_err T.e1 hr (pa_cons (pv 0) pa_nil)) (pa_cons (NE.pe_err T.e2 hr (pa_cons (pv 0) pa_nil)) (pa_cons (NE.pe_err T.e3 hr (pa_cons (pv 0) pa_nil)) pa_nil))))))
      (pss_cons (ps_set (i := 1) sc_law_made.nd rfl (by first | exact Or.inl rfl | exact Or.inr rfl) (pe_op U.add (pv 1) (pe_lst (pa_cons (NE.pe_err T.e4 hr (pa_cons (pv 0) pa_nil)) (pa_cons (NE.pe_err T.e5 hr (pa_cons (pv 0) pa_nil)) (pa_cons (NE.pe_err T.e19 hr (pa_cons (pv 0) pa_nil)) (pa_cons (NE.pe_err T.e20 hr (pa_cons (pv 0) pa_nil)) pa_nil)))))))
      (pss_cons (ps_set (i := 1) sc_law_made.nd rfl (by first | exact Or.inl rfl | exact Or.inr rfl) (pe_op U.add (pv 1) (pe_lst (pa_cons (NE.pe_err T.e21 hr (pa_cons (pv 0) pa_nil)) (pa_cons (NE.pe_err T.e22 hr (pa_cons (pv 0) pa_nil)) (pa_cons (NE.pe_err T.e23 hr (pa_cons (pv 0) pa_nil)) (pa_cons (NE.pe_err T.e24 hr (pa_cons (pv 0) pa_nil)) pa_nil)))))))
      (pss_cons (ps_set (i := 1) sc_law_made.nd rfl (by first | exact Or.inl rfl | exact Or.inr rfl) (pe_op U.add (pv 1) (pe_lst (pa_cons (NE.pe_err T.e6 hr (pa_cons (pv 0) pa_nil)) (pa_cons (NE.pe_err T.e7 hr (pa_cons (pv 0) pa_nil)) (pa_cons (NE.pe_err T.e8 hr (pa_cons (pv 0) pa_nil)) (pa_cons (NE.pe_err T.e9 hr (pa_cons (pv 0) pa_nil)) pa_nil)))))))
      (pss_cons (ps_set (i := 1) sc_law_made.nd rfl (by first | exact Or.inl rfl | exact Or.inr rfl) (pe_op U.add (pv 1) (pe_lst (pa_cons (NE.pe_err T.e10 hr (pa_cons (pv 0) pa_nil)) (pa_cons (NE.pe_err T.e11 hr (pa_cons (pv 0) pa_nil)) (pa_cons (NE.pe_err T.e12 hr (pa_cons (pv 0) pa_nil)) (pa_cons (NE.pe_err T.e13 hr (pa_cons (pv 0) pa_nil)) pa_nil)))))))
      (pss_cons (ps_set (i := 1) sc_law_made.nd rfl (by first | exact Or.inl rfl | exact Or.inr rfl) (pe_op U.add (pv 1) (pe_lst (pa_cons (NE.pe_err T.e14 hr (pa_cons (pv 0) pa_nil)) (pa_cons (NE.pe_err T.e15 hr (pa_cons (pv 0) pa_nil)) (pa_cons (NE.pe_err T.e17 hr (pa_cons (pv 0) pa_nil)) (pa_cons (NE.pe_err T.e26 hr (pa_cons (pv 0) pa_nil)) pa_nil)))))))
      (pss_cons (ps_set (i := 1) sc_law_made.nd rfl (by first | exact Or.inl rfl | exact Or.inr rfl) (pe_op U.add (pv 1) (pe_lst (pa_cons (NE.pe_err T.e16 hr (pa_cons (pv 0) pa_nil)) (pa_cons (NE.pe_err T.e18 hr (pa_cons (pv 0) pa_nil)) (pa_cons (NE.pe_err T.e25 hr (pa_cons (pv 0) pa_nil)) pa_nil))))))
      (pss_one (ps_ret (pv 1)))))))))), ?_⟩
  obtain ⟨u, rfl, k⟩ := h
  refine s_first (eae_cons (ev_err rfl) (eae_cons (ev_err rfl) (eae_cons (ev_err rfl) (eae_cons (ev_err rfl) eae_nil)))) (Nat.le_of_ble_eq_true rfl) fun p0 H0 vs0 n0 e0 h0 i0 => ?_
  refine s_more rfl h0 i0 (eae_cons (ev_err rfl) (eae_cons (ev_err rfl) (eae_cons (ev_err rfl) (eae_cons (ev_err rfl) eae_nil)))) (Nat.le_of_ble_eq_true rfl) fun p1 H1 vs1 n1 e1 h1 i1 => ?_
  refine s_more rfl h1 i1 (eae_cons (ev_err rfl) (eae_cons (ev_err rfl) (eae_cons (ev_err rfl) (eae_cons (ev_err rfl) eae_nil)))) (Nat.le_of_ble_eq_true rfl) fun p2 H2 vs2 n2 e2 h2 i2 => ?_
  refine s_more rfl h2 i2 (eae_cons (ev_err rfl) (eae_cons (ev_err rfl) (eae_cons (ev_err rfl) (eae_cons (ev_err rfl) eae_nil)))) (Nat.le_of_ble_eq_true rfl) fun p3 H3 vs3 n3 e3 h3 i3 => ?_
  refine s_more rfl h3 i3 (eae_cons (ev_err rfl) (eae_cons (ev_err rfl) (eae_cons (ev_err rfl) (eae_cons (ev_err rfl) eae_nil)))) (Nat.le_of_ble_eq_true rfl) fun p4 H4 vs4 n4 e4 h4 i4 => ?_
  refine s_more rfl h4 i4 (eae_cons (ev_err rfl) (eae_cons (ev_err rfl) (eae_cons (ev_err rfl) (eae_cons (ev_err rfl) eae_nil)))) (Nat.le_of_ble_eq_true rfl) fun p5 H5 vs5 n5 e5 h5 i5 => ?_
  refine s_more rfl h5 i5 (eae_cons (ev_err rfl) (eae_cons (ev_err rfl) (eae_cons (ev_err rfl) eae_nil))) (Nat.le_of_ble_eq_true rfl) fun p6 H6 vs6 n6 e6 h6 i6 => ?_
  exact ⟨_, rfl, k p6 H6 vs6 (fresh_back (((((e0.trans e1).trans e2).trans e3).trans e4).trans e5) n6) ((((((e0.trans e1).trans e2).trans e3).trans e4).trans e5).trans e6) h6 i6⟩
theorem ok_law_by_name (T : Txt K mg) {fd : FuncData} (F : Fd_law_by_name K fd) : FnOk PP w K mg base CX0 4 (ga K "_law_by_name") fd ["_law_thing_here"] (spErs K) := by
  refine F.ok sc_law_by_name (fun vs H Q E h => ?_) ?_
  · obtain ⟨u, rfl, _⟩ := h
    rfl
  intro cdv A outer s H vs Q E hr h
  have hu : (A.deeper (envOfC "_law_by_name" (defScope d_g_law_by_name.st) s.heap.objs.size (ga K "_law_by_name") cdv)).units + 64 < cLine := by have := hr.un; omega
  have hv : (A.deeper (envOfC "_law_by_name" (defScope d_g_law_by_name.st) s.heap.objs.size (ga K "_law_by_name") cdv)).units + 65 < cLine := by have := hr.un; omega
  refine ⟨_, PSs.nox (pss_cons (ps_set (i := 1) sc_law_by_name.nd rfl (by first | exact Or.inl rfl | exact Or.inr rfl) (pe_lst (pa_cons (NE.pe_errK T.e0 hr (pk_cons (pv 0) pk_nil)) (pa_cons (NE.pe_errK T.e1 hr (pk_cons (pv 0) pk_nil)) (pa_cons (NE.pe_errK T.e2 hr (pk_cons (pv 0) pk_nil)) pa_nil)))))
      (pss_cons (ps_set (i := 1) sc_law_by_name.nd rfl (by first | exact Or.inl rfl | exact Or.inr rfl) (pe_op U.add (pv 1) (pe_lst (pa_cons (NE.pe_errK T.e3 hr (pk_cons (pv 0) pk_nil)) (pa_cons (NE.pe_errK T.e4 hr (pk_cons (pv 0) pk_nil)) (pa_cons (NE.pe_errK T.e5 hr (pk_cons (pv 0) pk_nil)) pa_nil))))))
      (pss_cons (ps_set (i := 1) sc_law_by_name.nd rfl (by first | exact Or.inl rfl | exact Or.inr rfl) (pe_op U.add (pv 1) (pe_lst (pa_cons (NE.pe_errK T.e19 hr (pk_cons (pv 0) pk_nil)) (pa_cons (NE.pe_errK T.e20 hr (pk_cons (pv 0) pk_nil)) (pa_cons (NE.pe_errK T.e21 hr (pk_cons (pv 0) pk_nil)) pa_nil))))))
      (pss_cons (ps_set (i := 1) sc_law_by_name.nd rfl (by first | exact Or.inl rfl | exact Or.inr rfl) (pe_op U.add (pv 1) (pe_lst (pa_cons (NE.pe_errK T.e22 hr (pk_cons (pv 0) pk_nil)) (pa_cons (NE.pe_errK T.e23 hr (pk_cons (pv 0) pk_nil)) (pa_cons (NE.pe_errK T.e24 hr (pk_cons (pv 0) pk_nil)) pa_nil))))))
      (pss_cons (ps_set (i := 1) sc_law_by_name.nd rfl (by first | exact Or.inl rfl | exact Or.inr rfl) (pe_op U.add (pv 1) (pe_lst (pa_cons (NE.pe_errK T.e6 hr (pk_cons (pv 0) pk_nil)) (pa_cons (NE.pe_errK T.e7 hr (pk_cons (pv 0) pk_nil)) (pa_cons (NE.pe_errK T.e8 hr (pk_cons (pv 0) pk_nil)) pa_nil))))))
      (pss_cons (ps_set (i := 1) sc_law_by_name.nd rfl (by first | exact Or.inl rfl | exact Or.inr rfl) (pe_op U.add (pv 1) (pe_lst (pa_cons (NE.pe_errK T.e9 hr (pk_cons (pv 0) pk_nil)) (pa_cons (NE.pe_errK T.e10 hr (pk_cons (pv 0) pk_nil)) (pa_cons (NE.pe_errK T.e11 hr (pk_cons (pv 0) pk_nil)) pa_nil))))))
      (pss_cons (ps_set (i := 1) sc_law_by_name.nd rfl (by first | exact Or.inl rfl | exact Or.inr rfl) (pe_op U.add (pv 1) (pe_lst (pa_cons (NE.pe_errK T.e12 hr (pk_cons (pv 0) pk_nil)) (pa_cons (NE.pe_errK T.e13 hr (pk_cons (pv 0) pk_nil)) (pa_cons (NE.pe_errK T.e14 hr (pk_cons (pv 0) pk_nil)) pa_nil))))))
      (pss_cons (ps_set (i := 1) sc_law_by_name.nd rfl (by first | exact Or.inl rfl | exact Or.inr rfl) (pe_op U.add (pv 1) (pe_lst (pa_cons (NE.pe_errK T.e15 hr (pk_cons (pv 0) pk_nil)) (pa_cons (NE.pe_errK T.e17 hr (pk_cons (pv 0) pk_nil)) (pa_cons (NE.pe_errK T.e26 hr (pk_cons (pv 0) pk_nil)) pa_nil))))))
      (pss_cons (ps_set (i := 1) sc_law_by_name.nd rfl (by first | exact Or.inl rfl | exact Or.inr rfl) (pe_op U.add (pv 1) (pe_lst (pa_cons (NE.pe_errK T.e16 hr (pk_cons (pv 0) pk_nil)) (pa_cons (NE.pe_errK T.e18 hr (pk_cons (pv 0) pk_nil)) (pa_cons (NE.pe_errK T.e25 hr (pk_cons (pv 0) pk_nil)) pa_nil))))))
      (pss_one (ps_ret (pv 1)))))))))))), ?_⟩
  obtain ⟨u, rfl, k⟩ := h
  refine s_first (eae_cons (ev_err rfl) (eae_cons (ev_err rfl) (eae_cons (ev_err rfl) eae_nil))) (Nat.le_of_ble_eq_true rfl) fun p0 H0 vs0 n0 e0 h0 i0 => ?_
  refine s_more rfl h0 i0 (eae_cons (ev_err rfl) (eae_cons (ev_err rfl) (eae_cons (ev_err rfl) eae_nil))) (Nat.le_of_ble_eq_true rfl) fun p1 H1 vs1 n1 e1 h1 i1 => ?_
  refine s_more rfl h1 i1 (eae_cons (ev_err rfl) (eae_cons (ev_err rfl) (eae_cons (ev_err rfl) eae_nil))) (Nat.le_of_ble_eq_true rfl) fun p2 H2 vs2 n2 e2 h2 i2 => ?_
  refine s_more rfl h2 i2 (eae_cons (ev_err rfl) (eae_cons (ev_err rfl) (eae_cons (ev_err rfl) eae_nil))) (Nat.le_of_ble_eq_true rfl) fun p3 H3 vs3 n3 e3 h3 i3 => ?_
  refine s_more rfl h3 i3 (eae_cons (ev_err rfl) (eae_cons (ev_err rfl) (eae_cons (ev_err rfl) eae_nil))) (Nat.le_of_ble_eq_true rfl) fun p4 H4 vs4 n4 e4 h4 i4 => ?_
  refine s_more rfl h4 i4 (eae_cons (ev_err rfl) (eae_cons (ev_err rfl) (eae_cons (ev_err rfl) eae_nil))) (Nat.le_of_ble_eq_true rfl) fun p5 H5 vs5 n5 e5 h5 i5 => ?_
  refine s_more rfl h5 i5 (eae_cons (ev_err rfl) (eae_cons (ev_err rfl) (eae_cons (ev_err rfl) eae_nil))) (Nat.le_of_ble_eq_true rfl) fun p6 H6 vs6 n6 e6 h6 i6 => ?_
  refine s_more rfl h6 i6 (eae_cons (ev_err rfl) (eae_cons (ev_err rfl) (eae_cons (ev_err rfl) eae_nil))) (Nat.le_of_ble_eq_true rfl) fun p7 H7 vs7 n7 e7 h7 i7 => ?_
  refine s_more rfl h7 i7 (eae_cons (ev_err rfl) (eae_cons (ev_err rfl) (eae_cons (ev_err rfl) eae_nil))) (Nat.le_of_ble_eq_true rfl) fun p8 H8 vs8 n8 e8 h8 i8 => ?_
  exact ⟨_, rfl, k p8 H8 vs8 (fresh_back (((((((e0.trans e1).trans e2).trans e3).trans e4).trans e5).trans e6).trans e7) n8) ((((((((e0.trans e1).trans e2).trans e3).trans e4).trans e5).trans e6).trans e7).trans e8) h8 i8⟩
theorem ok_law_bare (T : Txt K mg) {fd : FuncData} (F : Fd_law_bare K fd) : FnOk PP w K mg base CX0 4 (ga K "_law_bare") fd [] (spBare K) := by
  refine F.ok sc_law_bare (fun vs H Q E h => ?_) ?_
  · obtain ⟨rfl, _⟩ := h
    rfl
  intro cdv A outer s H vs Q E hr h
  have hu : (A.deeper (envOfC "_law_bare" (defScope d_g_law_bare.st) s.heap.objs.size (ga K "_law_bare") cdv)).units + 64 < cLine := by have := hr.un; omega
  have hv : (A.deeper (envOfC "_law_bare" (defScope d_g_law_bare.st) s.heap.objs.size (ga K "_law_bare") cdv)).units + 65 < cLine := by have := hr.un; omega
  refine ⟨_, PSs.nox (pss_cons (ps_set (i := 0) sc_law_bare.nd rfl (by first | exact Or.inl rfl | exact Or.inr rfl) (pe_lst (pa_cons (NE.pe_err0 T.e0 hr) (pa_cons (NE.pe_err0 T.e1 hr) (pa_cons (NE.pe_err0 T.e2 hr) (pa_cons (NE.pe_err0 T.e3 hr) (pa_cons (NE.pe_err0 T.e4 hr) pa_nil)))))))
      (pss_cons (ps_set (i := 0) sc_law_bare.nd rfl (by first | exact Or.inl rfl | exact Or.inr rfl) (pe_op U.add (pv 0) (pe_lst (pa_cons (NE.pe_err0 T.e5 hr) (pa_cons (NE.pe_err0 T.e19 hr) (pa_cons (NE.pe_err0 T.e20 hr) (pa_cons (NE.pe_err0 T.e21 hr) (pa_cons (NE.pe_err0 T.e22 hr) pa_nil))))))))
      (pss_cons (ps_set (i := 0) sc_law_bare.nd rfl (by first | exact Or.inl rfl | exact Or.inr rfl) (pe_op U.add (pv 0) (pe_lst (pa_cons (NE.pe_err0 T.e23 hr) (pa_cons (NE.pe_err0 T.e24 hr) (pa_cons (NE.pe_err0 T.e6 hr) (pa_cons (NE.pe_err0 T.e7 hr) (pa_cons (NE.pe_err0 T.e8 hr) pa_nil))))))))
      (pss_cons (ps_set (i := 0) sc_law_bare.nd rfl (by first | exact Or.inl rfl | exact Or.inr rfl) (pe_op U.add (pv 0) (pe_lst (pa_cons (NE.pe_err0 T.e9 hr) (pa_cons (NE.pe_err0 T.e10 hr) (pa_cons (NE.pe_err0 T.e11 hr) (pa_cons (NE.pe_err0 T.e12 hr) (pa_cons (NE.pe_err0 T.e13 hr) pa_nil))))))))
      (pss_cons (ps_set (i := 0) sc_law_bare.nd rfl (by first | exact Or.inl rfl | exact Or.inr rfl) (pe_op U.add (pv 0) (pe_lst (pa_cons (NE.pe_err0 T.e14 hr) (pa_cons (NE.pe_err0 T.e15 hr) (pa_cons (NE.pe_err0 T.e17 hr) (pa_cons (NE.pe_err0 T.e26 hr) (pa_cons (NE.pe_err0 T.e16 hr) pa_nil))))))))
      (pss_cons (ps_set (i := 0) sc_law_bare.nd rfl (by first | exact Or.inl rfl | exact Or.inr rfl) (pe_op U.add (pv 0) (pe_lst (pa_cons (NE.pe_err0 T.e18 hr) (pa_cons (NE.pe_err0 T.e25 hr) pa_nil)))))
      (pss_one (ps_ret (pv 0))))))))), ?_⟩
  obtain ⟨rfl, k⟩ := h
  refine s_first (eae_cons ev_err0 (eae_cons ev_err0 (eae_cons ev_err0 (eae_cons ev_err0 (eae_cons ev_err0 eae_nil))))) (Nat.le_of_ble_eq_true rfl) fun p0 H0 vs0 n0 e0 h0 i0 => ?_
  refine s_more rfl h0 i0 (eae_cons ev_err0 (eae_cons ev_err0 (eae_cons ev_err0 (eae_cons ev_err0 (eae_cons ev_err0 eae_nil))))) (Nat.le_of_ble_eq_true rfl) fun p1 H1 vs1 n1 e1 h1 i1 => ?_
  refine s_more rfl h1 i1 (eae_cons ev_err0 (eae_cons ev_err0 (eae_cons ev_err0 (eae_cons ev_err0 (eae_cons ev_err0 eae_nil))))) (Nat.le_of_ble_eq_true rfl) fun p2 H2 vs2 n2 e2 h2 i2 => ?_
  refine s_more rfl h2 i2 (eae_cons ev_err0 (eae_cons ev_err0 (eae_cons ev_err0 (eae_cons ev_err0 (eae_cons ev_err0 eae_nil))))) (Nat.le_of_ble_eq_true rfl) fun p3 H3 vs3 n3 e3 h3 i3 => ?_
  refine s_more rfl h3 i3 (eae_cons ev_err0 (eae_cons ev_err0 (eae_cons ev_err0 (eae_cons ev_err0 (eae_cons ev_err0 eae_nil))))) (Nat.le_of_ble_eq_true rfl) fun p4 H4 vs4 n4 e4 h4 i4 => ?_
  refine s_more rfl h4 i4 (eae_cons ev_err0 (eae_cons ev_err0 eae_nil)) (Nat.le_of_ble_eq_true rfl) fun p5 H5 vs5 n5 e5 h5 i5 => ?_
  exact ⟨_, rfl, k p5 H5 vs5 (fresh_back ((((e0.trans e1).trans e2).trans e3).trans e4) n5) (((((e0.trans e1).trans e2).trans e3).trans e4).trans e5) h5 i5⟩
theorem ok_law_classes (T : Txt K mg) {fd : FuncData} (F : Fd_law_classes K fd) : FnOk PP w K mg base CX0 4 (ga K "_law_classes") fd ["_law_error"] (spClasses K) := by
  refine F.ok sc_law_classes (fun vs H Q E h => ?_) ?_
  · obtain ⟨v, a, rfl, _⟩ := h
    rfl
  intro cdv A outer s H vs Q E hr h
  have hu : (A.deeper (envOfC "_law_classes" (defScope d_g_law_classes.st) s.heap.objs.size (ga K "_law_classes") cdv)).units + 64 < cLine := by have := hr.un; omega
  have hv : (A.deeper (envOfC "_law_classes" (defScope d_g_law_classes.st) s.heap.objs.size (ga K "_law_classes") cdv)).units + 65 < cLine := by have := hr.un; omega
  refine ⟨_, PSs.nox (pss_cons (ps_set (i := 1) sc_law_classes.nd rfl (by first | exact Or.inl rfl | exact Or.inr rfl) (pe_lst (pa_cons (pe_callB U.isi rfl T.fr0 U.bo_isinstance (pa_cons (pv 0) (pa_cons (U.glob T.gx0) pa_nil))) (pa_cons (pe_callB U.isi rfl T.fr0 U.bo_isinstance (pa_cons (pv 0) (pa_cons (U.glob T.gx1) pa_nil))) pa_nil))))
      (pss_cons (ps_set (i := 1) sc_law_classes.nd rfl (by first | exact Or.inl rfl | exact Or.inr rfl) (pe_op U.add (pv 1) (pe_lst (pa_cons (pe_callB U.isi rfl T.fr0 U.bo_isinstance (pa_cons (pv 0) (pa_cons (U.glob T.gx2) pa_nil))) (pa_cons (pe_callB U.isi rfl T.fr0 U.bo_isinstance (pa_cons (pv 0) (pa_cons (U.glob T.gx3) pa_nil))) pa_nil)))))
      (pss_cons (ps_set (i := 1) sc_law_classes.nd rfl (by first | exact Or.inl rfl | exact Or.inr rfl) (pe_op U.add (pv 1) (pe_lst (pa_cons (pe_callB U.isi rfl T.fr0 U.bo_isinstance (pa_cons (pv 0) (pa_cons (U.glob T.gx4) pa_nil))) (pa_cons (pe_callB U.isi rfl T.fr0 U.bo_isinstance (pa_cons (pv 0) (pa_cons (U.glob T.gx5) pa_nil))) pa_nil)))))
      (pss_cons (ps_set (i := 1) sc_law_classes.nd rfl (by first | exact Or.inl rfl | exact Or.inr rfl) (pe_op U.add (pv 1) (pe_lst (pa_cons (pe_callB U.isi rfl T.fr0 U.bo_isinstance (pa_cons (pv 0) (pa_cons (U.glob T.gx19) pa_nil))) (pa_cons (pe_callB U.isi rfl T.fr0 U.bo_isinstance (pa_cons (pv 0) (pa_cons (U.glob T.gx20) pa_nil))) pa_nil)))))
      (pss_cons (ps_set (i := 1) sc_law_classes.nd rfl (by first | exact Or.inl rfl | exact Or.inr rfl) (pe_op U.add (pv 1) (pe_lst (pa_cons (pe_callB U.isi rfl T.fr0 U.bo_isinstance (pa_cons (pv 0) (pa_cons (U.glob T.gx21) pa_nil))) (pa_cons (pe_callB U.isi rfl T.fr0 U.bo_isinstance (pa_cons (pv 0) (pa_cons (U.glob T.gx22) pa_nil))) pa_nil)))))
      (pss_cons (ps_set (i := 1) sc_law_classes.nd rfl (by first | exact Or.inl rfl | exact Or.inr rfl) (pe_op U.add (pv 1) (pe_lst (pa_cons (pe_callB U.isi rfl T.fr0 U.bo_isinstance (pa_cons (pv 0) (pa_cons (U.glob T.gx23) pa_nil))) (pa_cons (pe_callB U.isi rfl T.fr0 U.bo_isinstance (pa_cons (pv 0) (pa_cons (U.glob T.gx24) pa_nil))) pa_nil)))))
      (pss_cons (ps_set (i := 1) sc_law_classes.nd rfl (by first | exact Or.inl rfl | exact Or.inr rfl) (pe_op U.add (pv 1) (pe_lst (pa_cons (pe_callB U.isi rfl T.fr0 U.bo_isinstance (pa_cons (pv 0) (pa_cons (U.glob T.gx6) pa_nil))) (pa_cons (pe_callB U.isi rfl T.fr0 U.bo_isinstance (pa_cons (pv 0) (pa_cons (U.glob T.gx7) pa_nil))) pa_nil)))))
      (pss_cons (ps_set (i := 1) sc_law_classes.nd rfl (by first | exact Or.inl rfl | exact Or.inr rfl) (pe_op U.add (pv 1) (pe_lst (pa_cons (pe_callB U.isi rfl T.fr0 U.bo_isinstance (pa_cons (pv 0) (pa_cons (U.glob T.gx8) pa_nil))) (pa_cons (pe_callB U.isi rfl T.fr0 U.bo_isinstance (pa_cons (pv 0) (pa_cons (U.glob T.gx9) pa_nil))) pa_nil)))))
      (pss_cons (ps_set (i := 1) sc_law_classes.nd rfl (by first | exact Or.inl rfl | exact Or.inr rfl) (pe_op U.add (pv 1) (pe_lst (pa_cons (pe_callB U.isi rfl T.fr0 U.bo_isinstance (pa_cons (pv 0) (pa_cons (U.glob T.gx10) pa_nil))) (pa_cons (pe_callB U.isi rfl T.fr0 U.bo_isinstance (pa_cons (pv 0) (pa_cons (U.glob T.gx11) pa_nil))) pa_nil)))))
      (pss_cons (ps_set (i := 1) sc_law_classes.nd rfl (by first | exact Or.inl rfl | exact Or.inr rfl) (pe_op U.add (pv 1) (pe_lst (pa_cons (pe_callB U.isi rfl T.fr0 U.bo_isinstance (pa_cons (pv 0) (pa_cons (U.glob T.gx12) pa_nil))) (pa_cons (pe_callB U.isi rfl T.fr0 U.bo_isinstance (pa_cons (pv 0) (pa_cons (U.glob T.gx13) pa_nil))) pa_nil)))))
      (pss_cons (ps_set (i := 1) sc_law_classes.nd rfl (by first | exact Or.inl rfl | exact Or.inr rfl) (pe_op U.add (pv 1) (pe_lst (pa_cons (pe_callB U.isi rfl T.fr0 U.bo_isinstance (pa_cons (pv 0) (pa_cons (U.glob T.gx14) pa_nil))) (pa_cons (pe_callB U.isi rfl T.fr0 U.bo_isinstance (pa_cons (pv 0) (pa_cons (U.glob T.gx15) pa_nil))) pa_nil)))))
      (pss_cons (ps_set (i := 1) sc_law_classes.nd rfl (by first | exact Or.inl rfl | exact Or.inr rfl) (pe_op U.add (pv 1) (pe_lst (pa_cons (pe_callB U.isi rfl T.fr0 U.bo_isinstance (pa_cons (pv 0) (pa_cons (U.glob T.gx17) pa_nil))) (pa_cons (pe_callB U.isi rfl T.fr0 U.bo_isinstance (pa_cons (pv 0) (pa_cons (U.glob T.gx26) pa_nil))) pa_nil)))))
      (pss_cons (ps_set (i := 1) sc_law_classes.nd rfl (by first | exact Or.inl rfl | exact Or.inr rfl) (pe_op U.add (pv 1) (pe_lst (pa_cons (pe_callB U.isi rfl T.fr0 U.bo_isinstance (pa_cons (pv 0) (pa_cons (U.glob T.gx16) pa_nil))) (pa_cons (pe_callB U.isi rfl T.fr0 U.bo_isinstance (pa_cons (pv 0) (pa_cons (U.glob T.gx18) pa_nil))) pa_nil)))))
      (pss_cons (ps_set (i := 1) sc_law_classes.nd rfl (by first | exact Or.inl rfl | exact Or.inr rfl) (pe_op U.add (pv 1) (pe_lst (pa_cons (pe_callB U.isi rfl T.fr0 U.bo_isinstance (pa_cons (pv 0) (pa_cons (U.glob T.gx25) pa_nil))) (pa_cons (pe_callB U.isi rfl T.fr0 U.bo_isinstance (pa_cons (pv 0) (pa_cons (U.glob T.gb1) pa_nil))) pa_nil)))))
      (pss_cons (ps_set (i := 1) sc_law_classes.nd rfl (by first | exact Or.inl rfl | exact Or.inr rfl) (pe_op U.add (pv 1) (pe_lst (pa_cons (pe_callB U.isi rfl T.fr0 U.bo_isinstance (pa_cons (pv 0) (pa_cons (U.glob T.gb2) pa_nil))) pa_nil))))
      (pss_one (ps_ret (pv 1)))))))))))))))))), ?_⟩
  obtain ⟨v, a, rfl, ha, hx, k⟩ := h
  have ei := ei30 T ha
  refine s_asgL (el_lst (ea_cons (ev_isi (ev_var rfl) hx ei (kit30 T ha (.head _)) (.own _)) (ea_cons (ev_isi (ev_var rfl) hx ei (kit30 T ha (.tail _ (.head _))) (.own _)) ea_nil)) (Nat.le_of_ble_eq_true rfl)) fun p0 H0 n0 e0 h0 => ?_
  have x0 := IsX.mono e0 hx
  refine s_asgL (el_add rfl h0 (el_lst (ea_cons (ev_isi (ev_var rfl) x0 ei (kit30 T ha (.tail _ (.tail _ (.head _)))) (.own _)) (ea_cons (ev_isi (ev_var rfl) x0 ei (kit30 T ha (.tail _ (.tail _ (.tail _ (.head _))))) (.own _)) ea_nil)) (Nat.le_of_ble_eq_true rfl)) (Nat.le_of_ble_eq_true rfl)) fun p1 H1 n1 e1 h1 => ?_
  have x1 := IsX.mono e1 x0
  refine s_asgL (el_add rfl h1 (el_lst (ea_cons (ev_isi (ev_var rfl) x1 ei (kit30 T ha (.tail _ (.tail _ (.tail _ (.tail _ (.head _)))))) (.own _)) (ea_cons (ev_isi (ev_var rfl) x1 ei (kit30 T ha (.tail _ (.tail _ (.tail _ (.tail _ (.tail _ (.head _))))))) (.own _)) ea_nil)) (Nat.le_of_ble_eq_true rfl)) (Nat.le_of_ble_eq_true rfl)) fun p2 H2 n2 e2 h2 => ?_
  have x2 := IsX.mono e2 x1
  refine s_asgL (el_add rfl h2 (el_lst (ea_cons (ev_isi (ev_var rfl) x2 ei (kit30 T ha (.tail _ (.tail _ (.tail _ (.tail _ (.tail _ (.tail _ (.head _)))))))) (.own _)) (ea_cons (ev_isi (ev_var rfl) x2 ei (kit30 T ha (.tail _ (.tail _ (.tail _ (.tail _ (.tail _ (.tail _ (.tail _ (.head _))))))))) (.own _)) ea_nil)) (Nat.le_of_ble_eq_true rfl)) (Nat.le_of_ble_eq_true rfl)) fun p3 H3 n3 e3 h3 => ?_
  have x3 := IsX.mono e3 x2
  refine s_asgL (el_add rfl h3 (el_lst (ea_cons (ev_isi (ev_var rfl) x3 ei (kit30 T ha (.tail _ (.tail _ (.tail _ (.tail _ (.tail _ (.tail _ (.tail _ (.tail _ (.head _)))))))))) (.own _)) (ea_cons (ev_isi (ev_var rfl) x3 ei (kit30 T ha (.tail _ (.tail _ (.tail _ (.tail _ (.tail _ (.tail _ (.tail _ (.tail _ (.tail _ (.head _))))))))))) (.own _)) ea_nil)) (Nat.le_of_ble_eq_true rfl)) (Nat.le_of_ble_eq_true rfl)) fun p4 H4 n4 e4 h4 => ?_
  have x4 := IsX.mono e4 x3
  refine s_asgL (el_add rfl h4 (el_lst (ea_cons (ev_isi (ev_var rfl) x4 ei (kit30 T ha (.tail _ (.tail _ (.tail _ (.tail _ (.tail _ (.tail _ (.tail _ (.tail _ (.tail _ (.tail _ (.head _)))))))))))) (.own _)) (ea_cons (ev_isi (ev_var rfl) x4 ei (kit30 T ha (.tail _ (.tail _ (.tail _ (.tail _ (.tail _ (.tail _ (.tail _ (.tail _ (.tail _ (.tail _ (.tail _ (.head _))))))))))))) (.own _)) ea_nil)) (Nat.le_of_ble_eq_true rfl)) (Nat.le_of_ble_eq_true rfl)) fun p5 H5 n5 e5 h5 => ?_
  have x5 := IsX.mono e5 x4
  refine s_asgL (el_add rfl h5 (el_lst (ea_cons (ev_isi (ev_var rfl) x5 ei (kit30 T ha (.tail _ (.tail _ (.tail _ (.tail _ (.tail _ (.tail _ (.tail _ (.tail _ (.tail _ (.tail _ (.tail _ (.tail _ (.head _)))))))))))))) (.own _)) (ea_cons (ev_isi (ev_var rfl) x5 ei (kit30 T ha (.tail _ (.tail _ (.tail _ (.tail _ (.tail _ (.tail _ (.tail _ (.tail _ (.tail _ (.tail _ (.tail _ (.tail _ (.tail _ (.head _))))))))))))))) (.own _)) ea_nil)) (Nat.le_of_ble_eq_true rfl)) (Nat.le_of_ble_eq_true rfl)) fun p6 H6 n6 e6 h6 => ?_
  have x6 := IsX.mono e6 x5
  refine s_asgL (el_add rfl h6 (el_lst (ea_cons (ev_isi (ev_var rfl) x6 ei (kit30 T ha (.tail _ (.tail _ (.tail _ (.tail _ (.tail _ (.tail _ (.tail _ (.tail _ (.tail _ (.tail _ (.tail _ (.tail _ (.tail _ (.tail _ (.head _)))))))))))))))) (.own _)) (ea_cons (ev_isi (ev_var rfl) x6 ei (kit30 T ha (.tail _ (.tail _ (.tail _ (.tail _ (.tail _ (.tail _ (.tail _ (.tail _ (.tail _ (.tail _ (.tail _ (.tail _ (.tail _ (.tail _ (.tail _ (.head _))))))))))))))))) (.own _)) ea_nil)) (Nat.le_of_ble_eq_true rfl)) (Nat.le_of_ble_eq_true rfl)) fun p7 H7 n7 e7 h7 => ?_
  have x7 := IsX.mono e7 x6
  refine s_asgL (el_add rfl h7 (el_lst (ea_cons (ev_isi (ev_var rfl) x7 ei (kit30 T ha (.tail _ (.tail _ (.tail _ (.tail _ (.tail _ (.tail _ (.tail _ (.tail _ (.tail _ (.tail _ (.tail _ (.tail _ (.tail _ (.tail _ (.tail _ (.tail _ (.head _)))))))))))))))))) (.own _)) (ea_cons (ev_isi (ev_var rfl) x7 ei (kit30 T ha (.tail _ (.tail _ (.tail _ (.tail _ (.tail _ (.tail _ (.tail _ (.tail _ (.tail _ (.tail _ (.tail _ (.tail _ (.tail _ (.tail _ (.tail _ (.tail _ (.tail _ (.head _))))))))))))))))))) (.own _)) ea_nil)) (Nat.le_of_ble_eq_true rfl)) (Nat.le_of_ble_eq_true rfl)) fun p8 H8 n8 e8 h8 => ?_
  have x8 := IsX.mono e8 x7
  refine s_asgL (el_add rfl h8 (el_lst (ea_cons (ev_isi (ev_var rfl) x8 ei (kit30 T ha (.tail _ (.tail _ (.tail _ (.tail _ (.tail _ (.tail _ (.tail _ (.tail _ (.tail _ (.tail _ (.tail _ (.tail _ (.tail _ (.tail _ (.tail _ (.tail _ (.tail _ (.tail _ (.head _)))))))))))))))))))) (.own _)) (ea_cons (ev_isi (ev_var rfl) x8 ei (kit30 T ha (.tail _ (.tail _ (.tail _ (.tail _ (.tail _ (.tail _ (.tail _ (.tail _ (.tail _ (.tail _ (.tail _ (.tail _ (.tail _ (.tail _ (.tail _ (.tail _ (.tail _ (.tail _ (.tail _ (.head _))))))))))))))))))))) (.own _)) ea_nil)) (Nat.le_of_ble_eq_true rfl)) (Nat.le_of_ble_eq_true rfl)) fun p9 H9 n9 e9 h9 => ?_
  have x9 := IsX.mono e9 x8
  refine s_asgL (el_add rfl h9 (el_lst (ea_cons (ev_isi (ev_var rfl) x9 ei (kit30 T ha (.tail _ (.tail _ (.tail _ (.tail _ (.tail _ (.tail _ (.tail _ (.tail _ (.tail _ (.tail _ (.tail _ (.tail _ (.tail _ (.tail _ (.tail _ (.tail _ (.tail _ (.tail _ (.tail _ (.tail _ (.head _)))))))))))))))))))))) (.own _)) (ea_cons (ev_isi (ev_var rfl) x9 ei (kit30 T ha (.tail _ (.tail _ (.tail _ (.tail _ (.tail _ (.tail _ (.tail _ (.tail _ (.tail _ (.tail _ (.tail _ (.tail _ (.tail _ (.tail _ (.tail _ (.tail _ (.tail _ (.tail _ (.tail _ (.tail _ (.tail _ (.head _))))))))))))))))))))))) (.own _)) ea_nil)) (Nat.le_of_ble_eq_true rfl)) (Nat.le_of_ble_eq_true rfl)) fun p10 H10 n10 e10 h10 => ?_
  have x10 := IsX.mono e10 x9
  refine s_asgL (el_add rfl h10 (el_lst (ea_cons (ev_isi (ev_var rfl) x10 ei (kit30 T ha (.tail _ (.tail _ (.tail _ (.tail _ (.tail _ (.tail _ (.tail _ (.tail _ (.tail _ (.tail _ (.tail _ (.tail _ (.tail _ (.tail _ (.tail _ (.tail _ (.tail _ (.tail _ (.tail _ (.tail _ (.tail _ (.tail _ (.head _)))))))))))))))))))))))) (.own _)) (ea_cons (ev_isi (ev_var rfl) x10 ei (kit30 T ha (.tail _ (.tail _ (.tail _ (.tail _ (.tail _ (.tail _ (.tail _ (.tail _ (.tail _ (.tail _ (.tail _ (.tail _ (.tail _ (.tail _ (.tail _ (.tail _ (.tail _ (.tail _ (.tail _ (.tail _ (.tail _ (.tail _ (.tail _ (.head _))))))))))))))))))))))))) (.own _)) ea_nil)) (Nat.le_of_ble_eq_true rfl)) (Nat.le_of_ble_eq_true rfl)) fun p11 H11 n11 e11 h11 => ?_
  have x11 := IsX.mono e11 x10
  refine s_asgL (el_add rfl h11 (el_lst (ea_cons (ev_isi (ev_var rfl) x11 ei (kit30 T ha (.tail _ (.tail _ (.tail _ (.tail _ (.tail _ (.tail _ (.tail _ (.tail _ (.tail _ (.tail _ (.tail _ (.tail _ (.tail _ (.tail _ (.tail _ (.tail _ (.tail _ (.tail _ (.tail _ (.tail _ (.tail _ (.tail _ (.tail _ (.tail _ (.head _)))))))))))))))))))))))))) (.own _)) (ea_cons (ev_isi (ev_var rfl) x11 ei (kit30 T ha (.tail _ (.tail _ (.tail _ (.tail _ (.tail _ (.tail _ (.tail _ (.tail _ (.tail _ (.tail _ (.tail _ (.tail _ (.tail _ (.tail _ (.tail _ (.tail _ (.tail _ (.tail _ (.tail _ (.tail _ (.tail _ (.tail _ (.tail _ (.tail _ (.tail _ (.head _))))))))))))))))))))))))))) (.own _)) ea_nil)) (Nat.le_of_ble_eq_true rfl)) (Nat.le_of_ble_eq_true rfl)) fun p12 H12 n12 e12 h12 => ?_
  have x12 := IsX.mono e12 x11
  refine s_asgL (el_add rfl h12 (el_lst (ea_cons (ev_isi (ev_var rfl) x12 ei (kit30 T ha (.tail _ (.tail _ (.tail _ (.tail _ (.tail _ (.tail _ (.tail _ (.tail _ (.tail _ (.tail _ (.tail _ (.tail _ (.tail _ (.tail _ (.tail _ (.tail _ (.tail _ (.tail _ (.tail _ (.tail _ (.tail _ (.tail _ (.tail _ (.tail _ (.tail _ (.tail _ (.head _)))))))))))))))))))))))))))) (.own _)) (ea_cons (ev_isi (ev_var rfl) x12 ei (kit30 T ha (.tail _ (.tail _ (.tail _ (.tail _ (.tail _ (.tail _ (.tail _ (.tail _ (.tail _ (.tail _ (.tail _ (.tail _ (.tail _ (.tail _ (.tail _ (.tail _ (.tail _ (.tail _ (.tail _ (.tail _ (.tail _ (.tail _ (.tail _ (.tail _ (.tail _ (.tail _ (.tail _ (.head _))))))))))))))))))))))))))))) (.own _)) ea_nil)) (Nat.le_of_ble_eq_true rfl)) (Nat.le_of_ble_eq_true rfl)) fun p13 H13 n13 e13 h13 => ?_
  have x13 := IsX.mono e13 x12
  refine s_asgL (el_add rfl h13 (el_lst (ea_cons (ev_isi (ev_var rfl) x13 ei (kit30 T ha (.tail _ (.tail _ (.tail _ (.tail _ (.tail _ (.tail _ (.tail _ (.tail _ (.tail _ (.tail _ (.tail _ (.tail _ (.tail _ (.tail _ (.tail _ (.tail _ (.tail _ (.tail _ (.tail _ (.tail _ (.tail _ (.tail _ (.tail _ (.tail _ (.tail _ (.tail _ (.tail _ (.tail _ (.head _)))))))))))))))))))))))))))))) (.own _)) ea_nil) (Nat.le_of_ble_eq_true rfl)) (Nat.le_of_ble_eq_true rfl)) fun p14 H14 n14 e14 h14 => ?_
  have x14 := IsX.mono e14 x13
  exact ⟨_, rfl, k p14 H14 (fresh_back (((((((((((((e0.trans e1).trans e2).trans e3).trans e4).trans e5).trans e6).trans e7).trans e8).trans e9).trans e10).trans e11).trans e12).trans e13) n14) ((((((((((((((e0.trans e1).trans e2).trans e3).trans e4).trans e5).trans e6).trans e7).trans e8).trans e9).trans e10).trans e11).trans e12).trans e13).trans e14) h14⟩
end
end K01

set_option Elab.async false
set_option linter.all false
set_option maxRecDepth 100000
set_option maxHeartbeats 0
namespace K01
open PySem PySem.Spec PyProof.Rows L2 NE He Evl
section
variable {w : World} {K : PySem.W.Frag} {mg : PySem.Str → Option Value} {base : Heap}
theorem rv_eqI {H : Hp} {i j : Int} : RV (U.rEqU K) (.int i) (.int j) H (.bl (decide (V.int i = V.int j))) := fun H1 _ Q q => .inl ⟨rfl, q H1 (Ex.refl H1)⟩
theorem sp_classes {H : Hp} {v : V} {a : PySem.Str} (ha : a ∈ all30) (hx : IsX H v (ga K a)) : SpL (spClasses K) [v] H (bits a) := fun H1 e Q q E => ⟨v, a, rfl, ha, hx.mono e, fun p H' n x h => q p H' n x h⟩
theorem ok_law_placed (T : Txt K mg) {fd fdc : FuncData} (F : Fd_law_placed K fd) (F_law_classes : Fd_law_classes K fdc) : FnOk PP w K mg base CX0 5 (ga K "_law_placed") fd ["_law_errors"] (spPlaced K) := by
  have G_law_classes : FnOk PP w K mg base CX0 4 (ga K "_law_classes") fdc ["_law_error"] (spClasses K) := ok_law_classes T F_law_classes
  have b_law_classes : Binds K fdc ["_law_error"] [] := F_law_classes.bindsN fun _ _ _ _ _ _ us hl => match us, hl with | [_], _ => rfl
  refine F.ok sc_law_placed (fun vs H Q E h => ?_) ?_
  · obtain ⟨l, es, rfl, _⟩ := h
    rfl
  intro cdv A outer s H vs Q E hr h
  have hu : (A.deeper (envOfC "_law_placed" (defScope d_g_law_placed.st) s.heap.objs.size (ga K "_law_placed") cdv)).units + 64 < cLine := by have := hr.un; omega
  have hv : (A.deeper (envOfC "_law_placed" (defScope d_g_law_placed.st) s.heap.objs.size (ga K "_law_placed") cdv)).units + 65 < cLine := by have := hr.un; omega
  refine ⟨_, PSs.nox (pss_cons (ps_for PassesOwn.never rfl (pi_enum (by rfl) T.fr1 (pa_cons (pv 0) pa_nil)) (pg_tup rfl (pgs_cons (pg_name (i := 1) sc_law_placed.nd rfl (by first | exact Or.inl rfl | exact Or.inr rfl)) (pgs_cons (pg_name (i := 2) sc_law_placed.nd rfl (by first | exact Or.inl rfl | exact Or.inr rfl)) pgs_nil))) (pss_cons (ps_if (PW.pt (pw_or (pt_not (pt_val (pe_callB U.isi rfl T.fr0 U.bo_isinstance (pa_cons (pv 2) (pa_cons (U.glob T.gb0) pa_nil))))) (pw_or1 (pt_not (pt_val (pe_callB U.isi rfl T.fr0 U.bo_isinstance (pa_cons (pv 2) (pa_cons (U.bty T.fr8 U.bo_ValueError) pa_nil)))))))) (pss_one (ps_ret pe_bl)) pss_nil)
      (pss_one (ps_if (pt_cmpR (U.ne hu) (pe_call G_law_classes (hr.mono (by decide)) rfl T.gl1 F_law_classes.kp b_law_classes .nil pass0 (pa_cons (pv 2) pa_nil)) (pe_lc (own := [("_law_spot", 3)]) rfl sc_law_placed.nd (pi_range1 rfl T.fr2 (pa_cons pe_int pa_nil)) (blkOk_by (N := N_law_placed) (sc := defScope d_g_law_placed.st) (by decide +kernel)) (fun _ _ _ _ _ => (pg_name (i := 3) sc_law_placed.nd rfl (by first | exact Or.inl rfl | exact Or.inr rfl))) (fun _ _ _ _ _ => pts_nil) (fun _ _ _ _ _ => (pe_cmpR (UK.eq K hu) (pv 3) (pv 1) (nomark _)))) (nomark _)) (pss_one (ps_ret pe_bl)) pss_nil))))
      (pss_one (ps_ret pe_bl))), ?_⟩
  obtain ⟨l, es, rfl, hl, hp, k⟩ := h
  refine ⟨_, rfl, l, es, rfl, sq_of hl, for_it (walk_enum (K := K) (a := l) (xs := es)) (fun i σ' H' => σ'.length = 4 ∧ Ex H H') ⟨rfl, Ex.refl H⟩ (fun i σ' H' _ p => sq_of (p.2 _ _ hl)) ?_ (fun σ' H' p => k H' p.2)⟩
  intro i x σ' H' H'' hi p y
  obtain ⟨t, x1, y1, rfl, hn, rfl, e1, e2⟩ := y
  cases e1
  obtain ⟨a, ea, hx⟩ := Paired.at hp e2
  have hm : a ∈ cls29 := List.mem_of_getElem? ea
  have h30 : a ∈ all30 := .tail _ hm
  have h29 : i < 29 := (List.getElem?_eq_some_iff.mp ea).1
  have x2 : Ex H (upd H' t (.tup [.int (i : Nat), y1])) := p.2.trans (Ex.new hn)
  have lz := p.1
  refine ⟨t, _, rfl, st_of upd_same, rfl, _, _, rfl, _, _, rfl, rfl, ?_⟩
  generalize upd H' t (.tup [.int (i : Nat), y1]) = H2 at x2
  generalize hs2 : (σ'.set 1 (some (V.int (i : Nat)))).set 2 (some y1) = σ2
  have l2 : σ2.length = 4 := by
    rw [← hs2]
    simp [lz]
  have g1 : σ2[1]? = some (some (V.int (i : Nat))) := by
    rw [← hs2]
    simp [lz]
  have g2 : σ2[2]? = some (some y1) := by
    rw [← hs2]
    simp [lz]
  have ei := T.ei hm
  have X2 := IsX.mono x2 hx
  refine s_if (b := false) (et_is (et_or (et_not (et_B (ev_isi (ev_var g2) X2 ei (T.kitN hm) (.own _)))) (fun _ => et_not (et_B (ev_isi (ev_var g2) X2 ei (T.kitV hm) (.ty _))))) rfl) (fun z => nomatch z) fun _ H3 e3 => ?_
  have X3 := IsX.mono e3 X2
  refine s_if (b := false) (et_test (ev_opLL (el_call (ea_cons (ev_var g2) ea_nil) (sp_classes h30 X3)) (el_lcR1 (fun _ => true) (fun j => .bl (decide (V.int (j : Int) = V.int ((i : Nat) : Int)))) (ea_cons ev_c ea_nil) ⟨by decide, by decide⟩ (fun x => by simp [wipe]) (fun j H1 _ _ => fun H2 _ Q q => q H2 (Ex.refl H2)) (fun j H1 _ _ _ => ev_op (ev_var (by simp [wipe, l2])) (ev_var (by simp [wipe, g1])) rv_eqI)) ?_)) (fun z => nomatch z) fun _ H4 e4 => ?_
  · intro p1 q1 H5 h1 h2 _
    refine rv_neB (l := cls29) (f := fun c => decide (a = c)) h1 ?_
    show H5 q1 = some (.lst (bits a))
    rw [bits_at ⟨i, h29⟩ a ea]
    exact h2
  · exact ⟨l2, (x2.trans e3).trans e4⟩
end
end K01

set_option Elab.async false
set_option linter.all false
set_option maxRecDepth 100000
set_option maxHeartbeats 0
namespace K01
open PySem PySem.Spec PyProof.Rows L2 NE He Evl
section
variable {w : World} {K : PySem.W.Frag} {mg : PySem.Str → Option Value} {base : Heap}
theorem f4 (T : Txt K mg) : ∀ p ∈ ord27, Ex4 K mg p.1 p.2 := by
  intro p h
  simp only [ord27, List.mem_cons, List.mem_nil_iff, or_false] at h
  rcases h with rfl | rfl | rfl | rfl | rfl | rfl | rfl | rfl | rfl | rfl | rfl | rfl | rfl | rfl | rfl | rfl | rfl | rfl | rfl | rfl | rfl | rfl | rfl | rfl | rfl | rfl | rfl
  · exact T.x0
  · exact T.x1
  · exact T.x2
  · exact T.x3
  · exact T.x4
  · exact T.x5
  · exact T.x19
  · exact T.x20
  · exact T.x21
  · exact T.x22
  · exact T.x23
  · exact T.x24
  · exact T.x6
  · exact T.x7
  · exact T.x8
  · exact T.x9
  · exact T.x10
  · exact T.x11
  · exact T.x12
  · exact T.x13
  · exact T.x14
  · exact T.x15
  · exact T.x17
  · exact T.x26
  · exact T.x16
  · exact T.x18
  · exact T.x25
theorem cf_at {i : Nat} {c : Addr × PySem.Str} (h : (cf K)[i]? = some c) : ∃ p, ord27[i]? = some p ∧ c = (ga K p.1, p.2) := by
  unfold cf at h
  rw [List.getElem?_map] at h
  cases q : ord27[i]? with
  | none =>
    rw [q] at h
    cases h
  | some p =>
    rw [q] at h
    cases h
    exact ⟨p, rfl, rfl⟩
theorem ev_errF (T : Txt K mg) {σ : L2.St} {H : Hp} {te : TE} {v u : V} {p : PySem.Str × PySem.Str} (hp : p ∈ ord27) (h : Ev te σ H v) (i : IsE H v (ga K p.1) p.2 u) : Ev (tErrF K p.2 te) σ H u := fun H1 e Q q =>
  h H1 e _ fun H2 e2 => by
    obtain ⟨a, d, rfl, h1, h2⟩ := i.mono (e.trans e2)
    obtain ⟨_, t2, t3, t4⟩ := f4 T p hp
    exact ⟨a, _, d, u, rfl, h1, h2, t2, t3, t4, q H2 e2⟩
def spFields (K : PySem.W.Frag) : Sp := fun vs H Q _ => ∃ l es u, vs = [.ref l] ∧ H l = some (.lst es) ∧ Ers H u (cf K) es ∧ ∀ p H', H p = none → Ex H H' → H' p = some (.lst (List.replicate 27 u)) → Q (.ref p) H'
theorem el_slU {σ : L2.St} {H : Hp} {te : TE} {tl th : TO} {a : Addr} {xs : List V} {lo hi : Option Int} (h : Ev te σ H (.ref a)) (h1 : EvO tl σ H lo) (h2 : EvO th σ H hi) (hs : SqL K H a xs) : EvL (tSl (U.rSlU K) te tl th) σ H (cutV xs lo hi) := fun H1 e Q q =>
  h H1 e _ fun H2 e2 => h1 H2 (e.trans e2) _ fun H3 e3 => h2 H3 ((e.trans e2).trans e3) _ fun H4 e4 =>
    .inl ⟨a, xs, rfl, ex_l (((e.trans e2).trans e3).trans e4) hs, fun p hp => q p _ (fresh_back ((e2.trans e3).trans e4) hp) (((e2.trans e3).trans e4).trans (Ex.new hp)) upd_same⟩
theorem el_seq {σ : L2.St} {H : Hp} {tl te : TE} {g : TG} {t : TT} {vs : List Nat} {xs : List V} (h : EvL (tLc (iList K tl) g t te vs) σ H xs) : EvL (tLc (U.iSeq K tl) g t te vs) σ H xs := fun H1 e Q q => .inl (h H1 e Q q)
theorem cut24 {es : List V} (h : es.length = 27) : cutV es none (some 24) = es.take 24 := by
  unfold cutV
  rw [h]
  have e1 : HT.sIx 27 0 none = 0 := by decide
  have e2 : HT.sIx 27 27 (some 24) = 24 := by decide
  rw [e1, e2]
  rfl
theorem given_all (n : Nat) (u : V) : given n (fun _ => true) (fun _ => u) = List.replicate n u := by
  unfold given
  rw [List.filter_eq_self.mpr (fun _ _ => rfl)]
  rw [List.eq_replicate_iff]
  refine ⟨by simp, fun b hb => ?_⟩
  obtain ⟨_, _, e⟩ := List.mem_map.mp hb
  exact e.symm
theorem val24 : ∀ i : Fin 24, (ord27[i.val]?).map (·.2) = some "value" := by decide +kernel
theorem len27 {u : V} {H : Hp} {es : List V} (h : Ers H u (cf K) es) : es.length = 27 := by
  have z := Paired.length h
  rw [← z]
  rfl
theorem ix_at {H : Hp} {es : List V} {l : Addr} {σ : L2.St} {te : TE} {u : V} (hl : H l = some (.lst es)) (hv : Ev te σ H (.ref l)) (hp : Ers H u (cf K) es) (i : Nat) (hi : i < 27) : ∃ v p, ord27[i]? = some p ∧ IsE H v (ga K p.1) p.2 u ∧ Ev (tOp (U.rIxU K) te (tC (.int (i : Int)))) σ H v := by
  have z := len27 hp
  obtain ⟨v, ev⟩ : ∃ v, es[i]? = some v := ⟨es[i], by simp [z, hi]⟩
  obtain ⟨c, ec, ie⟩ := Paired.at hp ev
  obtain ⟨p, ep, rfl⟩ := cf_at ec
  refine ⟨v, p, ep, ie, ev_op hv ev_c fun H1 e Q q => .inl ⟨l, es, (i : Int), v, rfl, rfl, sq_of (e _ _ hl), ?_, q H1 (Ex.refl H1)⟩⟩
  unfold atI
  rw [ixN_nat (by omega)]
  exact ev
abbrev N_law_fields : List PySem.Str := ["_law_errors", "_law_found", "_law_error"]
theorem sc_law_fields : FnScope N_law_fields ["_law_errors"] (defScope d_g_law_fields.st) := ⟨rfl, rfl, rfl, by decide +kernel, rfl, by decide +kernel, by decide +kernel⟩
theorem ok_law_fields (T : Txt K mg) {fd : FuncData} (F : Fd_law_fields K fd) : FnOk PP w K mg base CX0 4 (ga K "_law_fields") fd ["_law_errors"] (spFields K) := by
  refine F.ok sc_law_fields (fun vs H Q E h => ?_) ?_
  · obtain ⟨l, es, u, rfl, _⟩ := h
    rfl
  intro cdv A outer s H vs Q E hr h
  have hu : (A.deeper (envOfC "_law_fields" (defScope d_g_law_fields.st) s.heap.objs.size (ga K "_law_fields") cdv)).units + 64 < cLine := by have := hr.un; omega
  have hv : (A.deeper (envOfC "_law_fields" (defScope d_g_law_fields.st) s.heap.objs.size (ga K "_law_fields") cdv)).units + 65 < cLine := by have := hr.un; omega
  refine ⟨_, PSs.nox (pss_cons (ps_setLc (i := 1) (own := [("_law_error", 2)]) rfl sc_law_fields.nd rfl rfl (sw_true rfl rfl rfl (by decide +kernel)) (U.it (pe_slice U.sl (pv 0) po_none (po_some pe_int))) (blkOk_by (N := N_law_fields) (sc := defScope d_g_law_fields.st) (by decide +kernel)) (fun _ _ _ _ _ => (pg_name (i := 2) sc_law_fields.nd rfl (by first | exact Or.inl rfl | exact Or.inr rfl))) (fun _ _ _ _ _ => pts_nil) (fun _ _ _ _ _ => (UK.errF K (pv 2))))
      (pss_one (ps_ret (pe_op U.add (pv 1) (pe_lst (pa_cons (NE.pe_errF (pe_ix U.ix (pv 0) pe_int (fun _ _ => rfl))) (pa_cons (NE.pe_errF (pe_ix U.ix (pv 0) pe_int (fun _ _ => rfl))) (pa_cons (NE.pe_errF (pe_ix U.ix (pv 0) pe_int (fun _ _ => rfl))) pa_nil)))))))), ?_⟩
  obtain ⟨l, es, u, rfl, hl, hp, k⟩ := h
  have z := len27 hp
  have ll : (cutV es none (some 24)).length = 24 := by
    rw [cut24 z, List.length_take, z]
    rfl
  refine s_asgL (el_seq (el_lcNL (fun _ => true) (fun _ => u) (el_slU (ev_var rfl) eo_none (eo_some ev_c) (sq_of hl)) (by rw [ll]; decide) (fun x => by simp [wipe]) (fun j x H1 _ _ => fun H2 _ Q q => q H2 (Ex.refl H2)) (fun j x H1 e1 hj _ => ?_))) fun p1 H1 n1 e1 h1 => ?_
  · have hj2 : j < 24 := by
      have := (List.getElem?_eq_some_iff.mp hj).1
      omega
    have hj3 : es[j]? = some x := by
      rw [cut24 z, List.getElem?_take, if_pos hj2] at hj
      exact hj
    obtain ⟨c, ec, ie⟩ := Paired.at hp hj3
    obtain ⟨p, ep, rfl⟩ := cf_at ec
    have ev : p.2 = "value" := by
      have q := val24 ⟨j, hj2⟩
      rw [ep] at q
      exact Option.some.inj q
    have r := ev_errF T (te := tVar 2) (σ := (wipe (L2.start N_law_fields [V.ref l]) [2]).set 2 (some x)) (H := H1) (List.mem_of_getElem? ep) (ev_var rfl) (ie.mono e1)
    rw [ev] at r
    exact r
  · rw [given_all, ll] at h1
    obtain ⟨v0, q0, o0, i0, g0⟩ := ix_at (K := K) (σ := (L2.start N_law_fields [V.ref l]).set 1 (some (.ref p1))) (te := tVar 0) (e1 _ _ hl) (ev_var rfl) (hp.mono e1) 24 (by decide)
    obtain ⟨v1, q1, o1, i1, g1⟩ := ix_at (K := K) (σ := (L2.start N_law_fields [V.ref l]).set 1 (some (.ref p1))) (te := tVar 0) (e1 _ _ hl) (ev_var rfl) (hp.mono e1) 25 (by decide)
    obtain ⟨v2, q2, o2, i2, g2⟩ := ix_at (K := K) (σ := (L2.start N_law_fields [V.ref l]).set 1 (some (.ref p1))) (te := tVar 0) (e1 _ _ hl) (ev_var rfl) (hp.mono e1) 26 (by decide)
    have w0 : q0 = (("NotLayered" : PySem.Str), ("ring" : PySem.Str)) := (Option.some.inj o0).symm
    have w1 : q1 = (("TooMany" : PySem.Str), ("most" : PySem.Str)) := (Option.some.inj o1).symm
    have w2 : q2 = (("NotMeeting" : PySem.Str), ("conflicts" : PySem.Str)) := (Option.some.inj o2).symm
    have r0 := ev_errF T (List.mem_of_getElem? o0) g0 i0
    have r1 := ev_errF T (List.mem_of_getElem? o1) g1 i1
    have r2 := ev_errF T (List.mem_of_getElem? o2) g2 i2
    rw [w0] at r0
    rw [w1] at r1
    rw [w2] at r2
    refine s_retL (el_add rfl h1 (el_lst (ea_cons r0 (ea_cons r1 (ea_cons r2 ea_nil))) (Nat.le_of_ble_eq_true rfl)) (Nat.le_of_ble_eq_true rfl)) fun p2 H2 n2 e2 h2 => ?_
    exact k p2 H2 (fresh_back e1 n2) (e1.trans e2) h2
end
end K01

set_option Elab.async false
set_option linter.all false
set_option maxRecDepth 100000
set_option maxHeartbeats 0
namespace K01
open PySem PySem.Spec PyProof.Rows L2 NE He Evl
/-! the things that errors are made with, and their texts -/
abbrev Sm (i : Int) : Prop := i.natAbs < 10 ^ 30
inductive Th (H : Hp) : V → PyData → Bool → Prop
  | int {i : Int} (h : Sm i) : Th H (.int i) (.int i) false
  | non : Th H .non .none false
  | bl (b : Bool) : Th H (.bl b) (.bool b) false
  | str {x : PySem.Str} (h : (reprText x).length ≤ 20) : Th H (.str x) (.str x) false
  | l0 {t : Addr} (h : H t = some (.lst [])) : Th H (.ref t) (.list []) true
  | l1 {t : Addr} {i : Int} (hi : Sm i) (h : H t = some (.lst [.int i])) : Th H (.ref t) (.list [.int i]) true
  | l2 {t s : Addr} {i : Int} (hi : Sm i) (h : H t = some (.lst [.ref s, .non])) (h2 : H s = some (.lst [.int i])) : Th H (.ref t) (.list [.list [.int i], .none]) true
  | t0 {t : Addr} (h : H t = some (.tup [])) : Th H (.ref t) (.tuple []) false
  | t1 {t : Addr} {i : Int} (hi : Sm i) (h : H t = some (.tup [.int i, .str "a"])) : Th H (.ref t) (.tuple [.int i, .str "a"]) false
  | d0 {t : Addr} (h : H t = some (.dK [])) : Th H (.ref t) (.dict []) false
  | d1 {t : Addr} {i : Int} (hi : Sm i) (h : H t = some (.dK [(.inr "a", .int i)])) : Th H (.ref t) (.dict [(.str "a", .int i)]) false
section
variable {H H' : Hp} {v : V} {d : PyData} {b : Bool}
theorem Th.mono (e : Ex H H') (h : Th H v d b) : Th H' v d b := by
  cases h with
  | int h => exact .int h
  | non => exact .non
  | bl b => exact .bl b
  | str h => exact .str h
  | l0 h => exact .l0 (e _ _ h)
  | l1 hi h => exact .l1 hi (e _ _ h)
  | l2 hi h h2 => exact .l2 hi (e _ _ h) (e _ _ h2)
  | t0 h => exact .t0 (e _ _ h)
  | t1 hi h => exact .t1 hi (e _ _ h)
  | d0 h => exact .d0 (e _ _ h)
  | d1 hi h => exact .d1 hi (e _ _ h)
theorem Th.dq (h : Th H v d b) : U.Dq H v d := by
  cases h with
  | int h => exact .int _
  | non => exact .non
  | bl b => exact .bl b
  | str h => exact .str _
  | l0 h => exact .lst h .nil
  | l1 hi h => exact .lst h (.cons (.int _) .nil)
  | l2 hi h h2 => exact .lst h (.cons (.lst h2 (.cons (.int _) .nil)) (.cons .non .nil))
  | t0 h => exact .tup h .nil
  | t1 hi h => exact .tup h (.cons (.int _) (.cons (.str _) .nil))
  | d0 h => exact .d0 h
  | d1 hi h => exact .d1 h (.int _)
theorem textFrom_le : ∀ (ts : List PySem.Str) (k : Nat) (acc : PySem.Str), (textFrom k acc ts).length ≤ acc.length + piled ts
  | [], k, acc => by
    rw [piled_nil]
    exact Nat.le_refl _
  | t :: r, k, acc => by
    have h := textFrom_le r (k + 1) (acc ++ (if k > 0 then ", " else "" : String) ++ t)
    have e : (acc ++ (if k > 0 then ", " else "" : String) ++ t).length ≤ acc.length + 2 + t.length := by
      rw [strLen_append, strLen_append]
      split
      · exact Nat.le_refl _
      · show acc.length + 0 + t.length ≤ _
        omega
    rw [piled_cons]
    show (textFrom (k + 1) _ r).length ≤ _
    omega
theorem listText_le (ts : List PySem.Str) : (listText ts).length ≤ 2 + piled ts := by
  unfold listText
  rw [strLen_append]
  have h := textFrom_le ts 0 "["
  have e1 : (("[" : PySem.Str)).length = 1 := rfl
  have e2 : (("]" : PySem.Str)).length = 1 := rfl
  omega
theorem join_le : ∀ ts : List PySem.Str, (Str.join ", " ts).length ≤ piled ts := fun ts => by
  by_cases h : ts = []
  · subst h
    exact Nat.zero_le _
  · have := join_length_add ts h
    omega
theorem tupleText_le (ts : List PySem.Str) : (tupleText ts).length ≤ 3 + piled ts := by
  unfold tupleText
  rw [strLen_append, strLen_append]
  have h := join_le ts
  have e1 : (("(" : PySem.Str)).length = 1 := rfl
  split
  · have e2 : ((",)" : PySem.Str)).length = 2 := rfl
    omega
  · have e2 : ((")" : PySem.Str)).length = 1 := rfl
    omega
theorem dictText_le (ts : List PySem.Str) : (dictText ts).length ≤ 2 + piled ts := by
  unfold dictText
  rw [strLen_append, strLen_append]
  have h := join_le ts
  have e1 : (("{" : PySem.Str)).length = 1 := rfl
  have e2 : (("}" : PySem.Str)).length = 1 := rfl
  omega
/-- what repr asks of a datum -/
structure Fit (d : PyData) : Prop where
  sh : d.showable = true
  dp : d.depth ≤ 10
  le : d.shown.length ≤ 200
theorem int_sh {i : Int} (h : Sm i) : (PyData.int i).showable = true := by
  simp only [PyData.showable]
  refine decide_eq_true ?_
  by_cases h0 : i.natAbs = 0
  · rw [h0]
    decide
  · exact (Nat.log2_lt h0).mpr (Nat.lt_of_lt_of_le h (by decide +kernel))
theorem int_le {i : Int} (h : Sm i) : (PyData.int i).shown.length ≤ 31 := by
  simp only [PyData.shown]
  have e := int_text_length_le10 (k := 30) (by decide) h
  rw [PySem.ofString_length]
  exact e
theorem shownI {i : Int} (h : Sm i) : ∃ t : PySem.Str, (PyData.int i).shown = t ∧ t.length ≤ 31 := ⟨_, rfl, int_le h⟩
theorem fit_lst {ds : List PyData} (h1 : PyData.showableAll ds = true) (h2 : PyData.depthAll ds ≤ 5) (h3 : piled (PyData.shownAll ds) ≤ 190) : Fit (.list ds) :=
  ⟨by simp only [PyData.showable]; exact h1, by simp only [PyData.depth]; omega, by have := listText_le (PyData.shownAll ds); simp only [PyData.shown]; omega⟩
theorem fit_tup {ds : List PyData} (h1 : PyData.showableAll ds = true) (h2 : PyData.depthAll ds ≤ 5) (h3 : piled (PyData.shownAll ds) ≤ 190) : Fit (.tuple ds) :=
  ⟨by simp only [PyData.showable]; exact h1, by simp only [PyData.depth]; omega, by have := tupleText_le (PyData.shownAll ds); simp only [PyData.shown]; omega⟩
theorem sh_nil : PyData.showableAll [] = true := by simp only [PyData.showableAll]
theorem sh_cons {d : PyData} {ds : List PyData} (h : d.showable = true) (hs : PyData.showableAll ds = true) : PyData.showableAll (d :: ds) = true := by
  simp only [PyData.showableAll, h, hs, Bool.and_self]
theorem dp_nil : PyData.depthAll [] ≤ 5 := by simp [PyData.depthAll]
theorem dp_cons {d : PyData} {ds : List PyData} (h : d.depth ≤ 5) (hs : PyData.depthAll ds ≤ 5) : PyData.depthAll (d :: ds) ≤ 5 := by
  simp only [PyData.depthAll]
  omega
theorem pl_nil : piled (PyData.shownAll []) ≤ 0 := by simp [PyData.shownAll, piled]
theorem pl_cons {d : PyData} {ds : List PyData} {a n : Nat} (h : d.shown.length ≤ a) (hs : piled (PyData.shownAll ds) ≤ n) : piled (PyData.shownAll (d :: ds)) ≤ a + 2 + n := by
  simp only [PyData.shownAll, piled_cons]
  omega
theorem dp_int {i : Int} : (PyData.int i).depth ≤ 5 := by simp [PyData.depth]
theorem dp_non : PyData.none.depth ≤ 5 := by simp [PyData.depth]
theorem dp_str {x : PySem.Str} : (PyData.str x).depth ≤ 5 := by simp [PyData.depth]
theorem sh_non : PyData.none.showable = true := by simp [PyData.showable]
theorem sh_str {x : PySem.Str} : (PyData.str x).showable = true := by simp [PyData.showable]
theorem le_non : PyData.none.shown.length ≤ 4 := by
  simp only [PyData.shown]
  exact Nat.le_refl _
theorem le_a : (PyData.str "a").shown.length ≤ 10 := by
  simp only [PyData.shown]
  decide +kernel
theorem le_later : (PyData.str "later").shown.length ≤ 10 := by
  simp only [PyData.shown]
  decide +kernel
theorem in_dp {i : Int} : (PyData.list [.int i]).depth ≤ 5 := by simp [PyData.depth, PyData.depthAll]
theorem in_sh {i : Int} (h : Sm i) : (PyData.list [.int i]).showable = true := by
  simp only [PyData.showable]
  exact sh_cons (int_sh h) sh_nil
theorem in_le {i : Int} (h : Sm i) : (PyData.list [.int i]).shown.length ≤ 40 := by
  have h1 := listText_le (PyData.shownAll [.int i])
  have h2 := pl_cons (int_le h) pl_nil
  simp only [PyData.shown]
  omega
theorem Th.fit (h : Th H v d b) : Fit d := by
  cases h with
  | int h => exact ⟨int_sh h, Nat.le_trans dp_int (by decide), Nat.le_trans (int_le h) (by decide)⟩
  | non => exact ⟨sh_non, Nat.le_trans dp_non (by decide), Nat.le_trans le_non (by decide)⟩
  | bl b => exact ⟨by simp [PyData.showable], by simp [PyData.depth], by cases b <;> (simp only [PyData.shown]; decide +kernel)⟩
  | str h => exact ⟨sh_str, Nat.le_trans dp_str (by decide), by simp only [PyData.shown]; omega⟩
  | l0 h => exact fit_lst sh_nil dp_nil (Nat.le_trans pl_nil (by decide))
  | l1 hi h => exact fit_lst (sh_cons (int_sh hi) sh_nil) (dp_cons dp_int dp_nil) (Nat.le_trans (pl_cons (int_le hi) pl_nil) (by decide))
  | l2 hi h h2 => exact fit_lst (sh_cons (in_sh hi) (sh_cons sh_non sh_nil)) (dp_cons in_dp (dp_cons dp_non dp_nil)) (Nat.le_trans (pl_cons (in_le hi) (pl_cons le_non pl_nil)) (by decide))
  | t0 h => exact fit_tup sh_nil dp_nil (Nat.le_trans pl_nil (by decide))
  | t1 hi h => exact fit_tup (sh_cons (int_sh hi) (sh_cons sh_str sh_nil)) (dp_cons dp_int (dp_cons dp_str dp_nil)) (Nat.le_trans (pl_cons (int_le hi) (pl_cons le_a pl_nil)) (by decide))
  | d0 h => exact ⟨by simp [PyData.showable, PyData.showableKv], by simp [PyData.depth, PyData.depthKv], by
      have := dictText_le (PyData.shownKv [])
      simp only [PyData.shown]
      have e : piled (PyData.shownKv []) = 0 := by simp [PyData.shownKv, piled]
      omega⟩
  | d1 hi h =>
    rename_i t i
    refine ⟨by simp only [PyData.showable, PyData.showableKv]; have := int_sh hi; simp only [PyData.showable] at this; rw [this]; rfl, by simp [PyData.depth, PyData.depthKv], ?_⟩
    have h1 := dictText_le (PyData.shownKv [(.str "a", .int i)])
    have e : piled (PyData.shownKv [(.str "a", .int i)]) = ((PyData.str "a").shown ++ ": " ++ (PyData.int i).shown).length + 2 := by
      simp only [PyData.shownKv, piled_cons, piled_nil]
    have h2 := le_a
    have h3 := int_le hi
    have e4 : ((": " : PySem.Str)).length = 2 := rfl
    rw [strLen_append, strLen_append] at e
    have e5 : (PyData.dict [(.str "a", .int i)]).shown = dictText (PyData.shownKv [(.str "a", .int i)]) := by simp only [PyData.shown]
    rw [e5]
    omega
/-- the thing with "later" behind it -/
theorem Th.later {t : Addr} (h : Th H (.ref t) d true) : ∃ xs d2, H t = some (.lst xs) ∧ xs.length ≤ 2 ∧ Fit d2 ∧ ∀ H', Ex H H' → U.Dq (upd H' t (.lst (xs ++ [.str "later"]))) (.ref t) d2 := by
  cases h with
  | l0 h => exact ⟨_, _, h, Nat.le_of_ble_eq_true rfl, fit_lst (sh_cons sh_str sh_nil) (dp_cons dp_str dp_nil) (Nat.le_trans (pl_cons le_later pl_nil) (by decide)), fun H' e => .lst upd_same (.cons (.str _) .nil)⟩
  | l1 hi h => exact ⟨_, _, h, Nat.le_of_ble_eq_true rfl, fit_lst (sh_cons (int_sh hi) (sh_cons sh_str sh_nil)) (dp_cons dp_int (dp_cons dp_str dp_nil)) (Nat.le_trans (pl_cons (int_le hi) (pl_cons le_later pl_nil)) (by decide)), fun H' e => .lst upd_same (.cons (.int _) (.cons (.str _) .nil))⟩
  | l2 hi h h2 =>
    refine ⟨_, _, h, Nat.le_of_ble_eq_true rfl, fit_lst (sh_cons (in_sh hi) (sh_cons sh_non (sh_cons sh_str sh_nil))) (dp_cons in_dp (dp_cons dp_non (dp_cons dp_str dp_nil))) (Nat.le_trans (pl_cons (in_le hi) (pl_cons le_non (pl_cons le_later pl_nil))) (by decide)), fun H' e => ?_⟩
    refine .lst upd_same (.cons (.lst ?_ (.cons (.int _) .nil)) (.cons .non (.cons (.str _) .nil)))
    rw [upd_ne (ne_of h2 h (fun z => nomatch z))]
    exact e _ _ h2
/-- fifty-four of them -/
theorem rep_sh (h : d.showable = true) : ∀ n : Nat, PyData.showableAll (List.replicate n d) = true
  | 0 => sh_nil
  | n + 1 => sh_cons h (rep_sh h n)
theorem rep_dp : ∀ n : Nat, PyData.depthAll (List.replicate n d) ≤ d.depth
  | 0 => by simp [PyData.depthAll]
  | n + 1 => by
    have h := rep_dp n
    rw [List.replicate_succ]
    simp only [PyData.depthAll]
    omega
theorem rep_pl : ∀ n : Nat, piled (PyData.shownAll (List.replicate n d)) = n * (d.shown.length + 2)
  | 0 => by simp [PyData.shownAll, piled]
  | n + 1 => by
    have h := rep_pl n
    rw [List.replicate_succ]
    simp only [PyData.shownAll, piled_cons, h]
    rw [Nat.succ_mul]
    omega
theorem rep_dq (h : U.Dq H v d) : ∀ n : Nat, U.DqAll H (List.replicate n v) (List.replicate n d)
  | 0 => .nil
  | n + 1 => .cons h (rep_dq h n)
theorem rv_repr {p : Addr} (hp : H p = some (.lst (List.replicate 54 v))) (h : U.Dq H v d) (f : Fit d) (e : Ex H H') {Q : VK} (q : Q (.str (PyData.list (List.replicate 54 d)).shown) H') (hm : U.Dq H' v d) : U.rRepr [.ref p] H' Q := by
  refine ⟨p, .list (List.replicate 54 d), rfl, .lst (e _ _ hp) (rep_dq hm 54), by simp only [PyData.showable]; exact rep_sh f.sh 54, ?_, ?_, q⟩
  · have h1 := rep_dp (d := d) 54
    have h2 := f.dp
    simp only [PyData.depth]
    omega
  · have h1 := listText_le (PyData.shownAll (List.replicate 54 d))
    have h2 := rep_pl (d := d) 54
    have h3 := f.le
    simp only [PyData.shown]
    rw [sizeLine_eq]
    omega
end
end K01

set_option Elab.async false
set_option linter.all false
set_option maxRecDepth 100000
set_option maxHeartbeats 0
namespace K01
open PySem PySem.Spec PyProof.Rows L2 NE He Evl
/-- a thing that is good, new since B where it is an object -/
def Gd (B : Hp) (v : V) (H : Hp) : Prop := (∃ d b, Th H v d b) ∧ ∀ t, v = .ref t → B t = none
theorem Gd.mono {B H H' : Hp} {v : V} (e : Ex H H') (h : Gd B v H) : Gd B v H' := by
  obtain ⟨⟨d, b, h1⟩, h2⟩ := h
  exact ⟨⟨d, b, h1.mono e⟩, h2⟩
def EvG (te : TE) (σ : L2.St) (H B : Hp) : Prop := ∀ H1, Ex H H1 → ∀ Q : VK, (∀ v H2, Ex H1 H2 → Gd B v H2 → Q v H2) → te σ H1 Q
def EvGA (ta : TA) (σ : L2.St) (H B : Hp) (n : Nat) : Prop := ∀ H1, Ex H H1 → ∀ Q : List V → Hp → Prop, (∀ vs H2, Ex H1 H2 → vs.length = n → (∀ v ∈ vs, Gd B v H2) → Q vs H2) → ta σ H1 Q
section
variable {K : PySem.W.Frag} {σ : L2.St} {H B : Hp} {te : TE} {ta : TA} {v : V} {m : Int} {D : Ends}
theorem ega_nil : EvGA tNil σ H B 0 := fun H1 _ Q q => q [] H1 (Ex.refl H1) rfl (fun _ z => nomatch z)
theorem ega_cons {n : Nat} (h : EvG te σ H B) (hr : EvGA ta σ H B n) : EvGA (tCons te ta) σ H B (n + 1) := fun H1 e Q q =>
  h H1 e _ fun v H2 e2 g2 => hr H2 (e.trans e2) _ fun vs H3 e3 l3 g3 => q _ H3 (e2.trans e3) (by rw [List.length_cons, l3]) fun x hx => by
    rcases List.mem_cons.mp hx with rfl | hx
    · exact g2.mono e3
    · exact g3 x hx
theorem eg_val {d : PyData} {b : Bool} (h : Ev te σ H v) (t : ∀ H', Th H' v d b) (r : ∀ t, v ≠ .ref t) : EvG te σ H B := fun H1 e Q q => h H1 e _ fun H2 e2 => q v H2 e2 ⟨⟨d, b, t H2⟩, fun t z => absurd z (r t)⟩
theorem gd_new {H1 : Hp} {p : Addr} {o : HO} {d : PyData} {b : Bool} (e : Ex B H1) (hp : H1 p = none) (t : Th (upd H1 p o) (.ref p) d b) : Gd B (.ref p) (upd H1 p o) := ⟨⟨d, b, t⟩, fun t z => by
  cases z
  exact fresh_back e hp⟩
theorem eg_l0 (hB : Ex B H) : EvG (tLst tNil) σ H B := fun H1 e Q q => ⟨Nat.zero_le _, fun p hp => q _ _ (Ex.new hp) (gd_new (hB.trans e) hp (.l0 upd_same))⟩
theorem eg_t0 (hB : Ex B H) : EvG (tTup tNil) σ H B := fun H1 e Q q => ⟨Nat.zero_le _, fun p hp => q _ _ (Ex.new hp) (gd_new (hB.trans e) hp (.t0 upd_same))⟩
theorem eg_l1 (hB : Ex B H) (h2 : σ[2]? = some (some (.int m))) (hm : Sm m) : EvG (tLst (tCons (tVar 2) tNil)) σ H B := fun H1 e Q q => ⟨_, h2, sz_of (Nat.le_of_ble_eq_true rfl), fun p hp => q _ _ (Ex.new hp) (gd_new (hB.trans e) hp (.l1 hm upd_same))⟩
theorem eg_t1 (hB : Ex B H) (h2 : σ[2]? = some (some (.int m))) (hm : Sm m) : EvG (tTup (tCons (tVar 2) (tCons (tC (.str "a")) tNil))) σ H B := fun H1 e Q q => ⟨_, h2, sz_of (Nat.le_of_ble_eq_true rfl), fun p hp => q _ _ (Ex.new hp) (gd_new (hB.trans e) hp (.t1 hm upd_same))⟩
theorem eg_d0 (hB : Ex B H) : EvG tDNewK σ H B := fun H1 e Q q p hp => q _ _ (Ex.new hp) (gd_new (hB.trans e) hp (.d0 upd_same))
theorem eg_d1 (hB : Ex B H) (h2 : σ[2]? = some (some (.int m))) (hm : Sm m) : EvG (tDisp [(tC (.str "a"), tVar 2)]) σ H B := fun H1 e Q q p hp => ⟨_, h2, upd_same, [(.inr "a", .int m)], rfl, Nat.le_of_ble_eq_true rfl, by
  rw [upd_upd]
  exact q _ _ (Ex.new hp) (gd_new (hB.trans e) hp (.d1 hm upd_same))⟩
theorem eg_l2 (hB : Ex B H) (h2 : σ[2]? = some (some (.int m))) (hm : Sm m) : EvG (tLst (tCons (tLst (tCons (tVar 2) tNil)) (tCons (tC .non) tNil))) σ H B := fun H1 e Q q =>
  ⟨_, h2, sz_of (Nat.le_of_ble_eq_true rfl), fun s hs => ⟨sz_of (Nat.le_of_ble_eq_true rfl), fun p hp => q _ _ ((Ex.new hs).trans (Ex.new hp)) (gd_new ((hB.trans e).trans (Ex.new hs)) hp (.l2 hm upd_same (Ex.new hp _ _ upd_same)))⟩⟩
theorem s_firstG {n i : Nat} (h : EvGA ta σ H B n) (hl : n ≤ 1000) (k : ∀ p H1 vs, Ex H H1 → H1 p = some (.lst vs) → vs.length = n → (∀ v ∈ vs, Gd B v H1) → D.nx (σ.set i (some (.ref p))) H1) : tAsg (tLst ta) (gName i) D σ H :=
  h H (Ex.refl H) _ fun vs H1 e l g => ⟨sz_of (by omega), fun p hp => k p _ vs (e.trans (Ex.new hp)) upd_same l fun v hv => (g v hv).mono (Ex.new hp)⟩
theorem s_moreG {n i : Nat} {p0 : Addr} {vs0 : List V} (hσ : σ[i]? = some (some (.ref p0))) (h0 : H p0 = some (.lst vs0)) (g0 : ∀ v ∈ vs0, Gd B v H) (h : EvGA ta σ H B n) (hl : vs0.length + n ≤ 1000)
    (k : ∀ p H1 vs, Ex H H1 → H1 p = some (.lst vs) → vs.length = vs0.length + n → (∀ v ∈ vs, Gd B v H1) → D.nx (σ.set i (some (.ref p))) H1) : tAsg (tOp (U.rAdd K) (tVar i) (tLst ta)) (gName i) D σ H := by
  refine ⟨_, hσ, h H (Ex.refl H) _ fun vs H1 e l g => ⟨sz_of (by omega), fun p hp => .inr (.inl ⟨p0, p, vs0, vs, rfl, rfl, (e.trans (Ex.new hp)) _ _ h0, upd_same, sz_of (by omega), fun q hq => ?_⟩)⟩⟩
  have e2 : Ex H (upd (upd H1 p (.lst vs)) q (.lst (vs0 ++ vs))) := (e.trans (Ex.new hp)).trans (Ex.new hq)
  refine k q _ (vs0 ++ vs) e2 upd_same (by rw [List.length_append, l]) fun v hv => ?_
  rcases List.mem_append.mp hv with hv | hv
  · exact (g0 v hv).mono e2
  · exact (g v hv).mono ((Ex.new hp).trans (Ex.new hq))
end
theorem zs : ∀ i : Fin 5, (reprText (Txt.mul "z" (i.val : Int))).length ≤ 20 := by decide +kernel
theorem zs_ok : ∀ k : Int, 0 ≤ k → k < 5 → MulOk "z" k := fun k h0 h1 => by
  have e1 : ("z" : PySem.Str).length = 1 := rfl
  refine ⟨by rw [Bool.or_eq_false_iff]; exact ⟨decide_eq_false (by omega), decide_eq_false (by omega)⟩, fun h2 h3 => ?_, fun h2 h3 => ?_⟩
  · rw [e1]
    have : (4 : Int) ≤ (2 ^ 63 - 1) / k := Int.le_ediv_of_mul_le (by omega) (by omega)
    omega
  · rw [e1]
    have e : k.toNat = 1 ∨ k.toNat = 2 ∨ k.toNat = 3 ∨ k.toNat = 4 := by omega
    rcases e with e | e | e | e <;> rw [e] <;> decide
def spThing : Sp := fun vs H Q _ => ∃ n at_ : Int, vs = [.int n, .int at_] ∧ ∀ v H', Ex H H' → Gd H v H' → Q v H'
section
variable {w : World} {K : PySem.W.Frag} {mg : PySem.Str → Option Value} {base : Heap}
abbrev N_law_thing : List PySem.Str := ["_law_drawn", "_law_at", "_law_many", "_law_values"]
theorem sc_law_thing : FnScope N_law_thing ["_law_drawn", "_law_at"] (defScope d_g_law_thing.st) := ⟨rfl, rfl, rfl, by decide +kernel, rfl, by decide +kernel, by decide +kernel⟩
theorem ok_law_thing (T : Txt K mg) {fd : FuncData} (F : Fd_law_thing K fd) : FnOk PP w K mg base CX0 4 (ga K "_law_thing") fd ["_law_drawn", "_law_at"] spThing := by
  refine F.ok sc_law_thing (fun vs H Q E h => ?_) ?_
  · obtain ⟨n, a, rfl, _⟩ := h
    rfl
  intro cdv A outer s H vs Q E hr h
  have hu : (A.deeper (envOfC "_law_thing" (defScope d_g_law_thing.st) s.heap.objs.size (ga K "_law_thing") cdv)).units + 64 < cLine := by have := hr.un; omega
  have hv : (A.deeper (envOfC "_law_thing" (defScope d_g_law_thing.st) s.heap.objs.size (ga K "_law_thing") cdv)).units + 65 < cLine := by have := hr.un; omega
  refine ⟨_, PSs.nox (pss_cons (ps_set (i := 2) sc_law_thing.nd rfl (by first | exact Or.inl rfl | exact Or.inr rfl) (pe_op U.mod (pe_callTy U.c_int rfl T.fr7 U.bo_int (pa_cons (pv 0) pa_nil)) (pe_op U.pow pe_int pe_int)))
      (pss_cons (ps_set (i := 3) sc_law_thing.nd rfl (by first | exact Or.inl rfl | exact Or.inr rfl) (pe_lst (pa_cons (pv 2) (pa_cons (pe_op U.sub pe_int (pv 2)) (pa_cons pe_non (pa_cons pe_bl (pa_cons pe_bl (pa_cons pe_str (pa_cons (pe_op U.mul pe_str (pe_op U.mod (pv 2) pe_int)) (pa_cons (pe_lst pa_nil) (pa_cons (pe_lst (pa_cons (pv 2) pa_nil)) (pa_cons (pe_tup pa_nil) (pa_cons (pe_tup (pa_cons (pv 2) (pa_cons pe_str pa_nil))) pa_nil)))))))))))))
      (pss_cons (ps_set (i := 3) sc_law_thing.nd rfl (by first | exact Or.inl rfl | exact Or.inr rfl) (pe_op U.add (pv 3) (pe_lst (pa_cons pe_dnewK (pa_cons (pe_disp (pps_cons pe_str (pv 2) pps_nil) rfl rfl (by decide) (by decide)) (pa_cons (pe_lst (pa_cons (pe_lst (pa_cons (pv 2) pa_nil)) (pa_cons pe_non pa_nil))) (pa_cons pe_str pa_nil)))))))
      (pss_one (ps_ret (pe_ix U.ix (pv 3) (pe_op U.mod (pe_op U.add (pv 2) (pv 1)) (pe_callB U.c_len rfl T.fr3 U.bo_len (pa_cons (pv 3) pa_nil))) (fun _ _ => rfl))))))), ?_⟩
  obtain ⟨n, at_, rfl, k⟩ := h
  have hm : Sm (n % 10 ^ 30) := by
    have h1 : (0 : Int) ≤ n % 10 ^ 30 := Int.emod_nonneg _ (by decide)
    have h2 : n % 10 ^ 30 < 10 ^ 30 := Int.emod_lt_of_pos _ (by decide)
    show (n % 10 ^ 30).natAbs < 10 ^ 30
    omega
  have hm' : Sm (0 - n % 10 ^ 30) := by
    show (0 - n % 10 ^ 30).natAbs < 10 ^ 30
    have h1 : (n % 10 ^ 30).natAbs < 10 ^ 30 := hm
    omega
  refine s_asg (v := .int (n % 10 ^ 30)) (ev_op (ev_cb (ea_cons (ev_var rfl) ea_nil) fun H1 _ Q q => .inl ⟨_, rfl, q H1 (Ex.refl H1)⟩) (ev_op ev_c ev_c (rv_I ⟨by decide, by decide, by decide⟩)) (rv_I (by decide +kernel))) fun H1 e1 => ?_
  generalize n % 10 ^ 30 = m at hm hm'
  have hk : 0 ≤ m % 5 ∧ m % 5 < 5 := ⟨Int.emod_nonneg _ (by decide), Int.emod_lt_of_pos _ (by decide)⟩
  have hz : (reprText (Txt.mul "z" (m % 5))).length ≤ 20 := by
    have z := zs ⟨(m % 5).toNat, by omega⟩
    have e : (((m % 5).toNat : Nat) : Int) = m % 5 := Int.toNat_of_nonneg hk.1
    rw [← e]
    exact z
  refine s_firstG (ega_cons (eg_val (ev_var rfl) (fun _ => .int hm) (fun _ z => nomatch z)) (ega_cons (eg_val (v := .int (0 - m)) (ev_op ev_c (ev_var rfl) rv_I0) (fun _ => .int hm') (fun _ z => nomatch z)) (ega_cons (eg_val ev_c (fun _ => .non) (fun _ z => nomatch z)) (ega_cons (eg_val ev_c (fun _ => .bl true) (fun _ z => nomatch z)) (ega_cons (eg_val ev_c (fun _ => .bl false) (fun _ z => nomatch z)) (ega_cons (eg_val ev_c (fun _ => .str (by decide +kernel)) (fun _ z => nomatch z)) (ega_cons (eg_val (ev_op ev_c (ev_op (ev_var rfl) ev_c (rv_I (by decide))) (fun H2 _ Q q => .inr (.inr ⟨_, _, rfl, rfl, zs_ok _ hk.1 hk.2, q H2 (Ex.refl H2)⟩))) (fun _ => .str hz) (fun _ z => nomatch z)) (ega_cons (eg_l0 e1) (ega_cons (eg_l1 e1 rfl hm) (ega_cons (eg_t0 e1) (ega_cons (eg_t1 e1 rfl hm) ega_nil))))))))))) (by decide) fun p2 H2 vs2 e2 h2 l2 g2 => ?_
  have e12 := e1.trans e2
  refine s_moreG rfl h2 g2 (ega_cons (eg_d0 e12) (ega_cons (eg_d1 e12 rfl hm) (ega_cons (eg_l2 e12 rfl hm) (ega_cons (eg_val ev_c (fun _ => .str (by decide +kernel)) (fun _ z => nomatch z)) ega_nil)))) (by rw [l2]; decide) fun p3 H3 vs3 e3 h3 l3 g3 => ?_
  rw [l2] at l3
  have e13 := e12.trans e3
  have l15 : vs3.length = 15 := l3
  have hix : 0 ≤ (m + at_) % 15 ∧ (m + at_) % 15 < 15 := ⟨Int.emod_nonneg _ (by decide), Int.emod_lt_of_pos _ (by decide)⟩
  obtain ⟨v, hv⟩ : ∃ v, vs3[((m + at_) % 15).toNat]? = some v := ⟨vs3[((m + at_) % 15).toNat]'(by omega), by simp [l15]⟩
  have hat : atI vs3 ((m + at_) % ((vs3.length : Nat) : Int)) = some v := by
    rw [l15]
    have e : (((m + at_) % 15).toNat : Int) = (m + at_) % 15 := Int.toNat_of_nonneg hix.1
    show atI vs3 ((m + at_) % 15) = some v
    rw [← e]
    unfold atI
    rw [ixN_nat (by omega)]
    exact hv
  refine s_ret (ev_op (ev_var rfl) (ev_op (ev_op (ev_var rfl) (ev_var rfl) (fun H4 _ Q q => .inl ⟨_, _, rfl, rfl, q H4 (Ex.refl H4)⟩)) (ev_cb (ea_cons (ev_var rfl) ea_nil) fun H4 e4 Q q => .inl ⟨p3, vs3, rfl, .inl (sq_of (e4 _ _ h3)), q H4 (Ex.refl H4)⟩) (rv_I (by rw [l15]; decide))) (fun H4 e4 Q q => .inl ⟨p3, vs3, _, v, rfl, rfl, sq_of (e4 _ _ h3), hat, q H4 (Ex.refl H4)⟩)) fun H4 e4 => ?_
  exact k v H4 (e13.trans e4) ((g3 v (List.mem_of_getElem? hv)).mono e4)
end
end K01

set_option Elab.async false
set_option linter.all false
set_option maxRecDepth 100000
set_option maxHeartbeats 0
namespace K01
open PySem PySem.Spec PyProof.Rows L2 NE He Evl
mutual
theorem dq_mono {H H' : Hp} (e : Ex H H') : ∀ (d : PyData) (v : V), U.Dq H v d → U.Dq H' v d
  | .none, _, h => by cases h; exact .non
  | .bool b, _, h => by cases h; exact .bl b
  | .int i, _, h => by cases h; exact .int i
  | .str x, _, h => by cases h; exact .str x
  | .list ds, _, h => by
    cases h with
    | lst h1 h2 => exact .lst (e _ _ h1) (dq_monoA e ds _ h2)
  | .tuple ds, _, h => by
    cases h with
    | tup h1 h2 => exact .tup (e _ _ h1) (dq_monoA e ds _ h2)
  | .dict [], _, h => by
    cases h with
    | d0 h1 => exact .d0 (e _ _ h1)
  | .dict [(.str x, d)], _, h => by
    cases h with
    | d1 h1 h2 => exact .d1 (e _ _ h1) (dq_mono e d _ h2)
  | .dict ((.none, _) :: _), _, h => by cases h
  | .dict ((.bool _, _) :: _), _, h => by cases h
  | .dict ((.int _, _) :: _), _, h => by cases h
  | .dict ((.list _, _) :: _), _, h => by cases h
  | .dict ((.tuple _, _) :: _), _, h => by cases h
  | .dict ((.dict _, _) :: _), _, h => by cases h
  | .dict (_ :: _ :: _), _, h => by cases h
theorem dq_monoA {H H' : Hp} (e : Ex H H') : ∀ (ds : List PyData) (vs : List V), U.DqAll H vs ds → U.DqAll H' vs ds
  | [], _, h => by cases h; exact .nil
  | d :: ds, _, h => by
    cases h with
    | cons h1 h2 => exact .cons (dq_mono e d _ h1) (dq_monoA e ds _ h2)
end
section
variable {K : PySem.W.Frag} {mg : PySem.Str → Option Value} {σ : L2.St} {H : Hp} {te ta tb tl : TE} {v u : V} {d : PyData}
theorem s_call {sp : Sp} {dvs vs : List V} {E : XK} {ta : TA} {j : Nat} {D : Ends} (h : EvA ta σ H vs) (k : ∀ H1, Ex H H1 → sp (vs ++ dvs) H1 (fun x H2 => D.nx (σ.set j (some x)) H2) E) : tAsg (tCall sp dvs E ta) (gName j) D σ H := h H (Ex.refl H) _ k
theorem el_add2 {xs ys : List V} (ha : EvL ta σ H xs) (hb : EvL tb σ H ys) (hz : xs.length + ys.length ≤ 1000) : EvL (tOp (U.rAdd K) ta tb) σ H (xs ++ ys) := fun H1 e Q q =>
  ha H1 e _ fun p H2 hp e2 h2 => hb H2 (e.trans e2) _ fun p' H3 hp' e3 h3 => .inr (.inl ⟨p, p', xs, ys, rfl, rfl, e3 _ _ h2, h3, sz_of (by omega), fun r hr => q r _ (fresh_back (e2.trans e3) hr) ((e2.trans e3).trans (Ex.new hr)) upd_same⟩)
theorem flat_one (v : V) : ∀ n : Nat, (List.replicate n [v]).flatten = List.replicate n v
  | 0 => rfl
  | n + 1 => by rw [List.replicate_succ, List.flatten_cons, flat_one v n, List.replicate_succ]; rfl
theorem el_mul {n : Nat} (ha : EvL ta σ H [v]) (hn : n ≤ 1000) : EvL (tOp (U.rMul K) ta (tC (.int (n : Int)))) σ H (List.replicate n v) := fun H1 e Q q =>
  ha H1 e _ fun p H2 hp e2 h2 => .inr (.inl ⟨p, (n : Int), [v], rfl, rfl, h2, by omega, by omega, sz_of (by rw [List.length_singleton]; omega), fun r hr => by
    rw [Int.toNat_natCast, flat_one]
    exact q r _ (fresh_back e2 hr) (e2.trans (Ex.new hr)) upd_same⟩)
theorem ev_repr (hl : EvL tl σ H (List.replicate 54 v)) (h : U.Dq H v d) (f : Fit d) : Ev (tCB U.rRepr (tCons tl tNil)) σ H (.str (PyData.list (List.replicate 54 d)).shown) := fun H1 e Q q =>
  hl H1 e _ fun p H2 hp e2 h2 => rv_repr h2 (dq_mono (e.trans e2) d v h) f (Ex.refl H2) (q H2 e2) (dq_mono (e.trans e2) d v h)
theorem rv_neS {x : PySem.Str} : RV (U.rNeU K) (.str x) (.str x) H (.bl false) := fun H1 _ Q q => .inl ⟨rfl, by
  have z : (!decide (V.str x = V.str x)) = false := by simp
  rw [z]
  exact q H1 (Ex.refl H1)⟩
theorem sp_fields {p : Addr} {es : List V} (hp : H p = some (.lst es)) (i : Ers H u (cf K) es) : SpL (spFields K) [.ref p] H (List.replicate 27 u) := fun H1 e Q q E => ⟨p, es, u, rfl, e _ _ hp, i.mono e, fun r H' n x h => q r H' n x h⟩
theorem el_fields {i : Nat} {p : Addr} {es : List V} {E : XK} (h : σ[i]? = some (some (.ref p))) (hp : H p = some (.lst es)) (ii : Ers H u (cf K) es) : EvL (tCall (spFields K) [] E (tCons (tVar i) tNil)) σ H (List.replicate 27 u) := el_call (ea_cons (ev_var h) ea_nil) (sp_fields hp ii)
/-- the one repr is the other -/
theorem et_same {p3 p4 : Addr} {es3 es4 : List V} {E : XK} (g2 : σ[2]? = some (some v)) (g3 : σ[3]? = some (some (.ref p3))) (g4 : σ[4]? = some (some (.ref p4))) (h3 : H p3 = some (.lst es3)) (h4 : H p4 = some (.lst es4)) (i3 : Ers H v (cf K) es3) (i4 : Ers H v (cf K) es4) (hd : U.Dq H v d) (f : Fit d) :
    EvT (tTest (tOp (U.rNeU K) (tCB U.rRepr (tCons (tOp (U.rAdd K) (tCall (spFields K) [] E (tCons (tVar 3) tNil)) (tCall (spFields K) [] E (tCons (tVar 4) tNil))) tNil)) (tCB U.rRepr (tCons (tOp (U.rMul K) (tLst (tCons (tVar 2) tNil)) (tC (.int 54))) tNil)))) σ H false := by
  refine et_test (ev_op (ev_repr (v := v) ?_ hd f) (ev_repr (v := v) ?_ hd f) rv_neS)
  · exact el_add2 (el_fields g3 h3 i3) (el_fields g4 h4 i4) (Nat.le_of_ble_eq_true rfl)
  · exact el_mul (n := 54) (el_lst (ea_cons (ev_var g2) ea_nil) (Nat.le_of_ble_eq_true rfl)) (by decide)
theorem dpn : ∀ n : Nat, DpAll K H (List.replicate n .non) (List.replicate n .none)
  | 0 => .nil
  | n + 1 => .cons .non (dpn n)
theorem sh27 : SeqAt.shaped (.list (List.replicate 27 .none)) = true := by decide +kernel
theorem et_bare {p5 : Addr} {es5 : List V} {E : XK} (g5 : σ[5]? = some (some (.ref p5))) (h5 : H p5 = some (.lst es5)) (i5 : Ers H .non (cf K) es5) :
    EvT (tTest (tOp (U.rNeU K) (tCall (spFields K) [] E (tCons (tVar 5) tNil)) (tOp (U.rMul K) (tLst (tCons (tC .non) tNil)) (tC (.int 27))))) σ H false := by
  refine et_test (ev_opLL (el_fields g5 h5 i5) (el_mul (n := 27) (v := .non) (el_lst (ea_cons ev_c ea_nil) (Nat.le_of_ble_eq_true rfl)) (by decide)) fun p q H1 hp hq _ => fun H2 e Q k => ?_)
  refine .inr ⟨_, _, .lst (sq_of (e _ _ hp)) (dpn 27), .lst (sq_of (e _ _ hq)) (dpn 27), sh27, sh27, ?_⟩
  rw [SeqAt.eqv_refl _ (SeqAt.canLay_of_shaped sh27)]
  exact k H2 (Ex.refl H2)
theorem Paired.unmap {α β γ : Type} {F : α → β → Prop} {G : γ → β → Prop} {f : γ → α} (h : ∀ c b, F (f c) b → G c b) : ∀ {l : List γ} {bs : List β}, Paired F (l.map f) bs → Paired G l bs
  | [], _, r => by cases r; exact .nil
  | c :: l, _, r => by
    cases r with
    | cons r1 r2 => exact .cons (h _ _ r1) (Paired.unmap h r2)
theorem Paired.remap {α β γ : Type} {G : α → β → Prop} {f : γ → α} : ∀ {l : List γ} {bs : List β}, Paired (fun c b => G (f c) b) l bs → Paired G (l.map f) bs
  | [], _, r => by cases r; exact .nil
  | c :: l, _, r => by
    cases r with
    | cons r1 r2 => exact .cons r1 (Paired.remap r2)
theorem cls_split : cls29 = ord27.map (·.1) ++ [("NothingToUndo" : PySem.Str), ("NothingToRedo" : PySem.Str)] := by decide +kernel
theorem ers_isx {es : List V} (h : Ers H u (cf K) es) : Paired (fun a v => IsX H v (ga K a)) (ord27.map (·.1)) es := Paired.remap (Paired.unmap (f := fun p : PySem.Str × PySem.Str => (ga K p.1, p.2)) (fun c b z => z.isX) h)
theorem et_placed (T : Txt K mg) {p : Addr} {es : List V} {E : XK} (g6 : σ[6]? = some (some (.ref p))) (hp : H p = some (.lst es)) (i : Ers H u (cf K) es) :
    EvT (tNot (tB (tCall (spPlaced K) [] E (tCons (tOp (U.rAdd K) (tVar 6) (tLst (tCons (tErrB (ga K "NothingToUndo")) (tCons (tErrB (ga K "NothingToRedo")) tNil)))) tNil)))) σ H false := fun H1 e Q q => by
  have z := len27 i
  refine ⟨_, g6, ?_⟩
  dsimp only [tLst, tCons, tNil]
  refine ev_errB (C := ga K "NothingToUndo") (σ := σ) (H := H1) H1 (Ex.refl H1) _ fun v1 H2 e2 x1 => ?_
  refine ev_errB (C := ga K "NothingToRedo") (σ := σ) (H := H2) H2 (Ex.refl H2) _ fun v2 H3 e3 x2 => ?_
  refine ⟨sz_of (Nat.le_of_ble_eq_true rfl), fun r hr => .inr (.inl ⟨p, r, es, [v1, v2], rfl, rfl, ?_, upd_same, sz_of (by rw [z]; exact Nat.le_of_ble_eq_true rfl), fun r2 hr2 => ?_⟩)⟩
  · exact (((e.trans e2).trans e3).trans (Ex.new hr)) _ _ hp
  · have e4 : Ex H3 (upd (upd H3 r (.lst [v1, v2])) r2 (.lst (es ++ [v1, v2]))) := (Ex.new hr).trans (Ex.new hr2)
    have e5 : Ex H (upd (upd H3 r (.lst [v1, v2])) r2 (.lst (es ++ [v1, v2]))) := ((e.trans e2).trans e3).trans e4
    refine ⟨r2, es ++ [v1, v2], rfl, upd_same, ?_, fun H' x => ⟨true, rfl, q H' (((e2.trans e3).trans e4).trans x)⟩⟩
    rw [cls_split]
    exact Paired.app (ers_isx (i.mono e5)) (.cons (x1.mono (e3.trans e4)) (.cons (x2.mono e4) .nil))
theorem ty_of {b : Bool} (h : Th H v d b) : ∃ t, TyX K H v (.type t) ∧ kitB t "list" = some b := by
  cases h with
  | int h => exact ⟨"int", .base (.int _), by decide +kernel⟩
  | non => exact ⟨"NoneType", .base .non, by decide +kernel⟩
  | bl b => exact ⟨"bool", .base (.bl _), by decide +kernel⟩
  | str h => exact ⟨"str", .base (.str _), by decide +kernel⟩
  | l0 h => exact ⟨"list", .base (.lst h), by decide +kernel⟩
  | l1 hi h => exact ⟨"list", .base (.lst h), by decide +kernel⟩
  | l2 hi h h2 => exact ⟨"list", .base (.lst h), by decide +kernel⟩
  | t0 h => exact ⟨"tuple", .base (.tup h), by decide +kernel⟩
  | t1 hi h => exact ⟨"tuple", .base (.tup h), by decide +kernel⟩
  | d0 h => exact ⟨"dict", .base (.dK h), by decide +kernel⟩
  | d1 hi h => exact ⟨"dict", .base (.dK h), by decide +kernel⟩
theorem et_isl {b : Bool} (g2 : σ[2]? = some (some v)) (h : Th H v d b) : EvT (tB (tCB (U.rIsU K) (tCons (tVar 2) (tCons (tC (.ty "list")) tNil)))) σ H b := et_B fun H1 e Q q => by
  obtain ⟨t, h1, h2⟩ := ty_of (K := K) (h.mono e)
  exact ⟨_, g2, .inr ⟨v, .ty "list", .type t, .type "list", b, rfl, .ty _, h1, kit_ty h2, q H1 (Ex.refl H1)⟩⟩
theorem ers_upd {t : Addr} {xs ys : List V} {cs : List (Addr × PySem.Str)} {es : List V} (ht : H t = some (.lst xs)) (i : Ers H u cs es) : Ers (upd H t (.lst ys)) u cs es := Paired.mapP i fun c v z => by
  obtain ⟨a, dd, rfl, h1, h2⟩ := z
  refine ⟨a, dd, rfl, ?_, ?_⟩
  · rw [upd_ne (ne_of h1 ht (fun z => nomatch z))]
    exact h1
  · rw [upd_ne (ne_of h2 ht (fun z => nomatch z))]
    exact h2
theorem cut_ints (ns : List Int) (lo hi : Option Int) : ∃ ms : List Int, cutV (ns.map V.int) lo hi = ms.map V.int := ⟨_, by
  unfold cutV
  rw [← List.map_drop, ← List.map_take]⟩
theorem ev_sum {lo hi : Option Int} {t1 t2 : TO} {a : Addr} {ns : List Int} (h : Ev te σ H (.ref a)) (h1 : EvO t1 σ H lo) (h2 : EvO t2 σ H hi) (hs : SqL K H a (ns.map V.int)) : ∃ z : Int, Ev (tCB (rSum K) (tCons (tSl (U.rSlU K) te t1 t2) tNil)) σ H (.int z) := by
  obtain ⟨ms, e⟩ := cut_ints ns lo hi
  refine ⟨ms.sum, fun H1 e1 Q q => el_slU h h1 h2 hs H1 e1 _ fun p H2 hp e2 h2 => ⟨p, ms, rfl, ?_, q H2 e2⟩⟩
  rw [e] at h2
  exact sq_of h2
end
def spLaw (K : PySem.W.Frag) : Sp := fun vs H Q _ => ∃ (a : Addr) (ns : List Int), vs = [.ref a] ∧ SqL K H a (ns.map V.int) ∧ ns.length ≤ 63 ∧ ∀ H', Q (.bl true) H'
section
variable {w : World} {K : PySem.W.Frag} {mg : PySem.Str → Option Value} {base : Heap}
abbrev Nlaw : List PySem.Str := ["_law_script", "_law_at", "_law_thing_here", "_law_errors", "_law_by_name_here", "_law_bare_here", "_law_some"]
theorem sclaw : FnScope Nlaw ["_law_script"] (defScope d_g_law.st) := ⟨rfl, rfl, rfl, by decide +kernel, rfl, by decide +kernel, by decide +kernel⟩
theorem ok_law (T : Txt K mg) {fd f_made f_classes f_placed f_thing f_by f_bare f_fields : FuncData} (F : Fdlaw K fd) (F_law_made : Fd_law_made K f_made) (F_law_classes : Fd_law_classes K f_classes) (F_law_placed : Fd_law_placed K f_placed) (F_law_thing : Fd_law_thing K f_thing) (F_law_by_name : Fd_law_by_name K f_by) (F_law_bare : Fd_law_bare K f_bare) (F_law_fields : Fd_law_fields K f_fields) :
    FnG PP w K mg base CX0 6 (ga K "law") fd ["_law_script"] (spLaw K) := by
  have G_law_made : FnOk PP w K mg base CX0 4 (ga K "_law_made") f_made ["_law_thing_here"] (spErs K) := ok_law_made T F_law_made
  have G_law_by_name : FnOk PP w K mg base CX0 4 (ga K "_law_by_name") f_by ["_law_thing_here"] (spErs K) := ok_law_by_name T F_law_by_name
  have G_law_bare : FnOk PP w K mg base CX0 4 (ga K "_law_bare") f_bare [] (spBare K) := ok_law_bare T F_law_bare
  have G_law_classes : FnOk PP w K mg base CX0 4 (ga K "_law_classes") f_classes ["_law_error"] (spClasses K) := ok_law_classes T F_law_classes
  have G_law_placed : FnOk PP w K mg base CX0 5 (ga K "_law_placed") f_placed ["_law_errors"] (spPlaced K) := ok_law_placed T F_law_placed F_law_classes
  have G_law_thing : FnOk PP w K mg base CX0 4 (ga K "_law_thing") f_thing ["_law_drawn", "_law_at"] spThing := ok_law_thing T F_law_thing
  have G_law_fields : FnOk PP w K mg base CX0 4 (ga K "_law_fields") f_fields ["_law_errors"] (spFields K) := ok_law_fields T F_law_fields
  have b_law_made : Binds K f_made ["_law_thing_here"] [] := F_law_made.bindsN fun _ _ _ _ _ _ us hl => match us, hl with | [_], _ => rfl
  have b_law_by_name : Binds K f_by ["_law_thing_here"] [] := F_law_by_name.bindsN fun _ _ _ _ _ _ us hl => match us, hl with | [_], _ => rfl
  have b_law_bare : Binds K f_bare [] [] := F_law_bare.bindsN fun _ _ _ _ _ _ us hl => match us, hl with | [], _ => rfl
  have b_law_classes : Binds K f_classes ["_law_error"] [] := F_law_classes.bindsN fun _ _ _ _ _ _ us hl => match us, hl with | [_], _ => rfl
  have b_law_placed : Binds K f_placed ["_law_errors"] [] := F_law_placed.bindsN fun _ _ _ _ _ _ us hl => match us, hl with | [_], _ => rfl
  have b_law_thing : Binds K f_thing ["_law_drawn", "_law_at"] [] := F_law_thing.bindsN fun _ _ _ _ _ _ us hl => match us, hl with | [_, _], _ => rfl
  have b_law_fields : Binds K f_fields ["_law_errors"] [] := F_law_fields.bindsN fun _ _ _ _ _ _ us hl => match us, hl with | [_], _ => rfl
  refine okG F sclaw (fun vs H Q E h => ?_) ?_
  · obtain ⟨a, ns, rfl, _⟩ := h
    rfl
  intro cdv A outer s H vs Q E hg hr h
  have hu : (A.deeper (envOfC "law" (defScope d_g_law.st) s.heap.objs.size (ga K "law") cdv)).units + 64 < cLine := by have := hr.un; omega
  have hv : (A.deeper (envOfC "law" (defScope d_g_law.st) s.heap.objs.size (ga K "law") cdv)).units + 65 < cLine := by have := hr.un; omega
  refine ⟨_, PSs.nox (pss_cons (ps_if (PW.pt (pw_or (pt_cmpR (U.isIn hv) pe_bl (pe_call G_law_classes (hr.mono (by decide)) rfl T.gl1 F_law_classes.kp b_law_classes .nil pass0 (pa_cons (NE.pe_errB T.b0) pa_nil)) rfl) (pw_or1 (pt_not (pt_val (pe_callB U.isi rfl T.fr0 U.bo_isinstance (pa_cons (NE.pe_errB T.b0) (pa_cons (U.bty T.fr8 U.bo_ValueError) pa_nil)))))))) (pss_one (ps_ret pe_bl)) pss_nil)
      (pss_cons (ps_for PassesOwn.never rfl (pi_range1 rfl T.fr2 (pa_cons (pe_callB U.c_max rfl T.fr4 U.bo_max (pa_cons pe_int (pa_cons (pe_callB U.c_len rfl T.fr3 U.bo_len (pa_cons (pe_slice U.sl (pv 0) po_none (po_some pe_int)) pa_nil)) pa_nil))) pa_nil)) (pg_name (i := 1) sclaw.nd rfl (by first | exact Or.inl rfl | exact Or.inr rfl)) (pss_cons (ps_set (i := 2) sclaw.nd rfl (by first | exact Or.inl rfl | exact Or.inr rfl) (pe_call G_law_thing (hr.mono (by decide)) rfl T.gl3 F_law_thing.kp b_law_thing .nil pass0 (pa_cons (pe_callB U.c_sum rfl T.fr5 U.bo_sum (pa_cons (pe_slice U.sl (pv 0) (po_some (pv 1)) (po_some (pe_op U.add (pv 1) pe_int))) pa_nil)) (pa_cons (pv 1) pa_nil))))
      (pss_cons (ps_par (i := 3) (j := 4) rfl sclaw.nd rfl rfl (by decide) rfl rfl (pa_cons (pe_call G_law_made (hr.mono (by decide)) rfl T.gl0 F_law_made.kp b_law_made .nil pass0 (pa_cons (pv 2) pa_nil)) (pa_cons (pe_call G_law_by_name (hr.mono (by decide)) rfl T.gl4 F_law_by_name.kp b_law_by_name .nil pass0 (pa_cons (pv 2) pa_nil)) pa_nil)) (by kernel_rfl))
      (pss_cons (ps_set (i := 5) sclaw.nd rfl (by first | exact Or.inl rfl | exact Or.inr rfl) (pe_call0 G_law_bare (hr.mono (by decide)) rfl T.gl5 F_law_bare.kp b_law_bare .nil pass0))
      (pss_cons (ps_for PassesOwn.never rfl (U.it (pe_tup (pa_cons (pv 3) (pa_cons (pv 4) (pa_cons (pv 5) pa_nil))))) (pg_name (i := 6) sclaw.nd rfl (by first | exact Or.inl rfl | exact Or.inr rfl)) (pss_one (ps_if (pt_not (pt_val (pe_call G_law_placed (hr.mono (by decide)) rfl T.gl2 F_law_placed.kp b_law_placed .nil pass0 (pa_cons (pe_op U.add (pv 6) (pe_lst (pa_cons (NE.pe_errB T.b1) (pa_cons (NE.pe_errB T.b2) pa_nil)))) pa_nil)))) (pss_one (ps_ret pe_bl)) pss_nil)))
      (pss_cons (ps_if (pt_cmpR (U.ne hu) (pe_callB (U.c_repr T.sm hg hu) rfl T.fr6 U.bo_repr (pa_cons (pe_op U.add (pe_call G_law_fields (hr.mono (by decide)) rfl T.gl6 F_law_fields.kp b_law_fields .nil pass0 (pa_cons (pv 3) pa_nil)) (pe_call G_law_fields (hr.mono (by decide)) rfl T.gl6 F_law_fields.kp b_law_fields .nil pass0 (pa_cons (pv 4) pa_nil))) pa_nil)) (pe_callB (U.c_repr T.sm hg hu) rfl T.fr6 U.bo_repr (pa_cons (pe_op U.mul (pe_lst (pa_cons (pv 2) pa_nil)) pe_int) pa_nil)) (nomark _)) (pss_one (ps_ret pe_bl)) pss_nil)
      (pss_cons (ps_if (pt_cmpR (U.ne hu) (pe_call G_law_fields (hr.mono (by decide)) rfl T.gl6 F_law_fields.kp b_law_fields .nil pass0 (pa_cons (pv 5) pa_nil)) (pe_op U.mul (pe_lst (pa_cons pe_non pa_nil)) pe_int) (nomark _)) (pss_one (ps_ret pe_bl)) pss_nil)
      (pss_one (ps_if (pt_val (pe_callB U.isi rfl T.fr0 U.bo_isinstance (pa_cons (pv 2) (pa_cons (U.bty T.fr9 U.bo_list) pa_nil)))) (pss_cons (ps_expr (pe_bm PySem.F.plainAttrs_list PySem.F.slot_list_append PySem.F.type_list_append mt_append (pv 2) (pa_cons pe_str pa_nil)))
      (pss_one (ps_if (pt_cmpR (U.ne hu) (pe_callB (U.c_repr T.sm hg hu) rfl T.fr6 U.bo_repr (pa_cons (pe_op U.add (pe_call G_law_fields (hr.mono (by decide)) rfl T.gl6 F_law_fields.kp b_law_fields .nil pass0 (pa_cons (pv 3) pa_nil)) (pe_call G_law_fields (hr.mono (by decide)) rfl T.gl6 F_law_fields.kp b_law_fields .nil pass0 (pa_cons (pv 4) pa_nil))) pa_nil)) (pe_callB (U.c_repr T.sm hg hu) rfl T.fr6 U.bo_repr (pa_cons (pe_op U.mul (pe_lst (pa_cons (pv 2) pa_nil)) pe_int) pa_nil)) (nomark _)) (pss_one (ps_ret pe_bl)) pss_nil))) pss_nil)))))))))
      (pss_one (ps_ret pe_bl)))), ?_⟩
  obtain ⟨a, ns, rfl, hS, hl, k⟩ := h
  have C0 : ∀ σ' H0, EvX (tErrB (ga K "NeverError")) σ' H0 (ga K "NeverError") := fun σ' H0 => ev_errB
  refine s_if (b := false) (et_is (et_or (a := false) (b := false) ?_ (fun _ => ?_)) rfl) (fun z => nomatch z) fun _ H1 e1 => ?_
  · intro H1 e Q1 q
    dsimp only [tTest, tOp, tC, tCall, tCons, tNil]
    refine C0 _ H1 H1 (Ex.refl H1) _ fun v H2 e2 x2 => ⟨v, "NeverError", rfl, .head _, x2, fun p H3 n3 e3 h3 => ?_⟩
    refine .inr (.inr ⟨p, bits "NeverError", rfl, .inl (sq_of h3), rfl, by decide +kernel, false, ?_, q H3 (e2.trans e3)⟩)
    have z : inV (.bl true) (bits "NeverError") = false := by decide +kernel
    rw [z]
    rfl
  · intro H1 e Q1 q
    dsimp only [tNot, tB, tCB, tC, tCons, tNil]
    refine C0 _ H1 H1 (Ex.refl H1) _ fun v H2 e2 x2 => ?_
    obtain ⟨a2, rfl, h2⟩ := x2
    exact .inl ⟨a2, _, _, _, true, rfl, h2, T.eiN, .ty _, T.kit1, true, rfl, q H2 e2⟩
  have hS1 := ex_l e1 hS
  have hL : (cutV (ns.map V.int) none (some 20)).length ≤ 63 := by
    have z := cutV_length (ns.map V.int) none (some 20)
    rw [List.length_map] at z
    omega
  have hmx : EvA (tCons (tCB (fun xs H Q => ∃ i j : Int, xs = [V.int i, V.int j] ∧ Q (.int (if j > i then j else i)) H) (tCons (tC (.int 1)) (tCons (tCB (U.rLenU K) (tCons (tSl (U.rSlU K) (tVar 0) tNoPart (tPart (tC (.int 20)))) tNil)) tNil))) tNil) (L2.start Nlaw [V.ref a]) H1 [.int (if ((cutV (ns.map V.int) none (some 20)).length : Int) > 1 then ((cutV (ns.map V.int) none (some 20)).length : Int) else 1)] :=
    ea_cons (ev_cb (ea_cons ev_c (ea_cons (fun H2 e2 Q2 q2 => el_slU (ev_var rfl) eo_none (eo_some ev_c) hS1 H2 e2 _ fun p H3 hp e3 h3 => .inl ⟨p, _, rfl, .inl (sq_of h3), q2 H3 e3⟩) ea_nil)) fun H2 _ Q2 q2 => ⟨1, _, rfl, q2 H2 (Ex.refl H2)⟩) ea_nil
  refine s_forR1 hmx (by split <;> omega) (fun i σ' H' => σ'.length = 7 ∧ σ'[0]? = some (some (.ref a)) ∧ Ex H H') (fun H2 e2 => ⟨rfl, rfl, e1.trans e2⟩) ?_ (fun σ' H' _ => k H')
  intro i σ' H' _ pv
  obtain ⟨l0, s0, x0⟩ := pv
  generalize hs1 : σ'.set 1 (some (V.int (i : Int))) = σ1
  have l1 : σ1.length = 7 := by rw [← hs1]; simp [l0]
  have g10 : σ1[0]? = some (some (.ref a)) := by rw [← hs1]; simp [s0]
  have g11 : σ1[1]? = some (some (V.int (i : Int))) := by rw [← hs1]; simp [l0]
  obtain ⟨z, hz⟩ := ev_sum (K := K) (H := H') (σ := σ1) (t1 := tPart (tVar 1)) (t2 := tPart (tOp (U.rAdd K) (tVar 1) (tC (.int 1)))) (te := tVar 0) (ev_var g10) (eo_some (ev_var g11)) (eo_some (ev_op (ev_var g11) ev_c (z := .int ((i : Int) + 1)) (fun H4 _ Q q => .inl ⟨_, _, rfl, rfl, q H4 (Ex.refl H4)⟩))) (ex_l x0 hS)
  refine s_call (ea_cons hz (ea_cons (ev_var g11) ea_nil)) fun H2 e2 => ?_
  refine ⟨z, (i : Int), rfl, fun v H3 e3 g3 => ?_⟩
  obtain ⟨⟨d, b, th⟩, fr⟩ := g3
  have x3 : Ex H H3 := (x0.trans e2).trans e3
  generalize hs2 : σ1.set 2 (some v) = σ2
  have l2 : σ2.length = 7 := by rw [← hs2]; simp [l1]
  have g20 : σ2[0]? = some (some (.ref a)) := by rw [← hs2]; simp [g10]
  have g22 : σ2[2]? = some (some v) := by rw [← hs2]; simp [l1]
  show tSeq _ _ _ σ2 H3
  refine ⟨v, g22, v, rfl, fun p3 H4 es3 n4 e4 h4 i4 => ?_⟩
  refine ⟨v, g22, v, rfl, fun p4 H5 es4 n5 e5 h5 i5 => ⟨_, _, rfl, ?_⟩⟩
  refine ⟨rfl, fun p5 H6 es5 n6 e6 h6 i6 => ?_⟩
  have l3 : (((σ2.set 3 (some (V.ref p3))).set 4 (some (V.ref p4))).set 5 (some (V.ref p5))).length = 7 := by simp [l2]
  have g30 : (((σ2.set 3 (some (V.ref p3))).set 4 (some (V.ref p4))).set 5 (some (V.ref p5)))[0]? = some (some (.ref a)) := by simp [g20]
  have g32 : (((σ2.set 3 (some (V.ref p3))).set 4 (some (V.ref p4))).set 5 (some (V.ref p5)))[2]? = some (some v) := by simp [g22]
  have g33 : (((σ2.set 3 (some (V.ref p3))).set 4 (some (V.ref p4))).set 5 (some (V.ref p5)))[3]? = some (some (.ref p3)) := by simp [l2]
  have g34 : (((σ2.set 3 (some (V.ref p3))).set 4 (some (V.ref p4))).set 5 (some (V.ref p5)))[4]? = some (some (.ref p4)) := by simp [l2]
  have g35 : (((σ2.set 3 (some (V.ref p3))).set 4 (some (V.ref p4))).set 5 (some (V.ref p5)))[5]? = some (some (.ref p5)) := by simp [l2]
  have x6 : Ex H H6 := ((x3.trans e4).trans e5).trans e6
  have q3 : H6 p3 = some (.lst es3) := (e5.trans e6) _ _ h4
  have q4 : H6 p4 = some (.lst es4) := e6 _ _ h5
  have j3 : Ers H6 v (cf K) es3 := i4.mono (e5.trans e6)
  have j4 : Ers H6 v (cf K) es4 := i5.mono e6
  have th6 : Th H6 v d b := th.mono ((e4.trans e5).trans e6)
  have ne3 : ∀ t, v = .ref t → H3 t ≠ none → p3 ≠ t ∧ p4 ≠ t := fun t _ ht => by
    cases q : H3 t with
    | none => exact absurd q ht
    | some o => exact ⟨(ne_of_none q n4).symm, (ne_of_none (e4 _ _ q) n5).symm⟩
  refine .inr ⟨_, g33, _, g34, _, g35, sz_of (Nat.le_of_ble_eq_true rfl), fun r hr => ⟨r, rfl, ⟨_, st_of upd_same⟩, for_it (walk_tup (K := K) (a := r) (xs := [.ref p3, .ref p4, .ref p5])) (fun _ σ' H' => σ'.length = 7 ∧ σ'[0]? = some (some (.ref a)) ∧ σ'[2]? = some (some v) ∧ σ'[3]? = some (some (.ref p3)) ∧ σ'[4]? = some (some (.ref p4)) ∧ σ'[5]? = some (some (.ref p5)) ∧ Ex (upd H6 r (.tup [.ref p3, .ref p4, .ref p5])) H') ⟨l3, g30, g32, g33, g34, g35, Ex.refl _⟩ (fun _ σ' H' _ q => st_of (q.2.2.2.2.2.2 _ _ upd_same)) ?_ ?_⟩⟩
  · intro j x σ' H' H'' hj q y
    obtain ⟨rfl, hx⟩ := y
    obtain ⟨w1, w2, w3, w4, w5, w6, w7⟩ := q
    have x7 : Ex H6 H'' := (Ex.new hr).trans w7
    obtain ⟨p, es, u, rfl, hp, ie⟩ : ∃ p es u, x = .ref p ∧ H'' p = some (.lst es) ∧ Ers H'' u (cf K) es := by
      match j, hj, hx with
      | 0, _, hx => cases hx; exact ⟨p3, es3, v, rfl, x7 _ _ q3, j3.mono x7⟩
      | 1, _, hx => cases hx; exact ⟨p4, es4, v, rfl, x7 _ _ q4, j4.mono x7⟩
      | 2, _, hx => cases hx; exact ⟨p5, es5, .non, rfl, x7 _ _ h6, i6.mono x7⟩
    refine s_if (b := false) (et_placed T (by simp [w1]) hp ie) (fun z => nomatch z) fun _ H8 e8 => ⟨by simp [w1], by simp [w2], by simp [w3], by simp [w4], by simp [w5], by simp [w6], w7.trans e8⟩
  · intro σ' H' q
    obtain ⟨w1, w2, w3, w4, w5, w6, w7⟩ := q
    have x7 : Ex H6 H' := (Ex.new hr).trans w7
    refine s_if (b := false) (et_same w3 w4 w5 (x7 _ _ q3) (x7 _ _ q4) (j3.mono x7) (j4.mono x7) (th6.mono x7).dq th6.fit) (fun z => nomatch z) fun _ H8 e8 => ?_
    have x8 := x7.trans e8
    refine s_if (b := false) (et_bare w6 (x8 _ _ h6) (i6.mono x8)) (fun z => nomatch z) fun _ H9 e9 => ?_
    have x9 := x8.trans e9
    refine s_if (b := b) (et_isl w3 (th6.mono x9)) (fun hb H10 e10 => ?_) (fun _ H10 e10 => ⟨w1, w2, (x6.trans x9).trans e10⟩)
    subst hb
    have x10 := x9.trans e10
    obtain ⟨t, rfl⟩ : ∃ t, v = .ref t := by
      cases th6 with
      | l0 h => exact ⟨_, rfl⟩
      | l1 hi h => exact ⟨_, rfl⟩
      | l2 hi h h2 => exact ⟨_, rfl⟩
    obtain ⟨xs, d2, hx, lx, f2, hd2⟩ := Th.later (th6.mono x10)
    have t3 : H3 t ≠ none := by
      obtain ⟨ys, _, hy, _⟩ := Th.later th
      rw [hy]
      exact fun z => nomatch z
    obtain ⟨na, nb⟩ := ne3 t rfl t3
    have hB : H t = none := fresh_back (x0.trans e2) (fr t rfl)
    refine s_app hx (ev_var w3) ev_c (by omega) fun H11 e11 => ?_
    have x11 := x10.trans e11
    refine s_if (b := false) (et_same w3 w4 w5 (by rw [upd_ne na]; exact x11 _ _ q3) (by rw [upd_ne nb]; exact x11 _ _ q4) (ers_upd (e11 _ _ hx) (j3.mono x11)) (ers_upd (e11 _ _ hx) (j4.mono x11)) (hd2 H11 e11) f2) (fun z => nomatch z) fun _ H12 e12 => ?_
    exact ⟨w1, w2, (Ex.mut (x6.trans x11) hB).trans e12⟩
end
end K01

set_option Elab.async false
set_option linter.all false
set_option maxRecDepth 100000
set_option maxHeartbeats 0
namespace K01
open PySem PySem.Spec PyProof.Rows L2 NE He Evl
theorem facts {w : World} {K : PySem.W.Frag} {h : Heap} {mg : PySem.Str → Option Value} {f : Addr} (X : K.In h) (G : h.Ns mainGlobals mg) (hfa : mg ("law" : PySem.Str) = some (.ref f)) (c : SaysB fn chk K) :
    ∃ fd : FuncData, (∀ (s : Shared) (v : Value), BindsTo s fd ⟨[v], []⟩ [("_law_script", v)]) ∧ ∀ base : Heap, K.In base → base.Ns mainGlobals mg → FnG PP w K mg base CX0 6 f fd ["_law_script"] (spLaw K) := by
  have T : Txt K mg := ⟨c, h, X, G⟩
  obtain ⟨fd, F⟩ := T.flaw
  obtain ⟨f1, F1⟩ := T.f_law_made
  obtain ⟨f2, F2⟩ := T.f_law_classes
  obtain ⟨f3, F3⟩ := T.f_law_placed
  obtain ⟨f4, F4⟩ := T.f_law_thing
  obtain ⟨f5, F5⟩ := T.f_law_by_name
  obtain ⟨f6, F6⟩ := T.f_law_bare
  obtain ⟨f7, F7⟩ := T.f_law_fields
  have e := hfa.symm.trans T.gl7
  cases e
  have b := FunD.bindsA (ps := ["_law_script"]) F fun _ _ _ _ _ _ us hl => match us, hl with | [_], _ => rfl
  exact ⟨fd, fun s v => b s [v] rfl, fun base _ _ => ok_law T F F1 F2 F3 F4 F5 F6 F7⟩
end K01
open PySem PySem.W PySem.Calls PyProof.Rows
theorem PySem.Challenge.cw_neverapart_k01_errors_made_holds : PySem.Challenge.rw_neverapart_k01_errors_made.Holds := by
  w_on; o_law
  refine HandSHeadRun.head_any (r := OpenLaw.row PySem.Challenge.rw_neverapart_k01_errors_made) (q := view (OpenLaw.row PySem.Challenge.rw_neverapart_k01_errors_made).prog [39]) (H := K01.hk) (ob := K01.ob) (M := 20000) (loose := K01.loose) (d := HandSHeadRun.topDef (OpenLaw.row PySem.Challenge.rw_neverapart_k01_errors_made).prog 39) (kwd := []) K01.ob_eq
    (by kernel_rfl) (fun s => by kernel_rfl) K01.run (by kernel_rfl) (by kernel_rfl) (by kernel_rfl) (by rfl) (by first | assumption | decide +kernel) (by decide +kernel) ⟨rfl, rfl, rfl, rfl, rfl, by decide +kernel⟩ ?hw ?hc
  case hw => w_witness2
  case hc =>
    refine NE.walk_ofG (l := PySem.Challenge.rw_neverapart_k01_errors_made) (n := 63) (k := 6) (x := "_law_script") (CX := L2.CX0) rfl (by decide) (by kernel_rfl) ⟨rfl, by decide, by decide⟩ ?F (fun _ _ _ _ z => z)
    intro w mg fa h Y G hmg0
    obtain ⟨K, KX, c⟩ := Y
    have hmg : mg ("law" : PySem.Str) = some (.ref fa) := by
      have e : (HandSHeadRun.topDef (OpenLaw.row PySem.Challenge.rw_neverapart_k01_errors_made).prog 39).name = ("law" : PySem.Str) := by kernel_rfl
      rw [← e]
      exact hmg0
    obtain ⟨fd, hb, hF⟩ := K01.facts (w := w) KX G hmg c
    exact ⟨K, fd, K01.spLaw K, KX, hb, fun H a ns hl _ hS => ⟨a, ns, rfl, hS, hl, fun _ => rfl⟩, hF⟩
